/- Contracts of functions, printed by program from annotations. -/
import Derived.Test.YtkplanpcmkbfiaaEdM
import Derived.Test.YtkplanpcmkbfiaaText
namespace Go.Proofs.Ytkplanpcmkbfiaa
open Go Go.AW Go.RowKit
set_option linter.unusedVariables false
set_option linter.unusedSimpArgs false

def veE (a b : Int) (l : List Int) (es : List (Int × Int)) : Int := if okP a b l = true ∧ edsB l es = true then 0 else 1
theorem veE_ok {a b : Int} {l : List Int} {es : List (Int × Int)} (h : okP a b l = true ∧ edsB l es = true) : veE a b l es = 0 := by unfold veE; rw [if_pos h]
theorem veE_bad {a b : Int} {l : List Int} {es : List (Int × Int)} (h : ¬ (okP a b l = true ∧ edsB l es = true)) : veE a b l es = 1 := by unfold veE; rw [if_neg h]
def zif (c x : Int) : Int := if c = 0 then x else 0
theorem zif_yes (x : Int) : zif 0 x = x := rfl
theorem zif_no (x : Int) : zif 1 x = 0 := rfl
def lif {α : Type} (c : Int) (l : List α) : List α := if c = 0 then l else []
theorem lif_yes {α : Type} (l : List α) : lif 0 l = l := rfl
theorem lif_no {α : Type} (l : List α) : lif 1 l = [] := rfl
theorem lif_size {α : Type} (c : Int) (l : List α) : (lif c l).length ≤ l.length := by unfold lif; split; exact Nat.le_refl _; exact Nat.zero_le _
def beE (a b : Int) (l : List Int) (a' b' : Int) (l' : List Int) : Int := if okP a b l = true ∧ okP a' b' l' = true then (if a = a' ∧ b = b' then 0 else 6) else 1
def beL (a b : Int) (l : List Int) (a' b' : Int) (l' : List Int) : List (Int × Int) := lif (beE a b l a' b' l') (betw l l' l.length)
theorem be_bad {a b a' b' : Int} {l l' : List Int} (h : ¬ (okP a b l = true ∧ okP a' b' l' = true)) : beE a b l a' b' l' = 1 ∧ beL a b l a' b' l' = [] := by
  have h1 : beE a b l a' b' l' = 1 := by unfold beE; rw [if_neg h]
  refine ⟨h1, ?_⟩
  unfold beL
  rw [h1]
  rfl
theorem be_other {a b a' b' : Int} {l l' : List Int} (h : okP a b l = true ∧ okP a' b' l' = true) (hn : ¬ (a = a' ∧ b = b')) : beE a b l a' b' l' = 6 ∧ beL a b l a' b' l' = [] := by
  have h1 : beE a b l a' b' l' = 6 := by unfold beE; rw [if_pos h, if_neg hn]
  refine ⟨h1, ?_⟩
  unfold beL
  rw [h1]
  rfl
theorem be_ok {a b a' b' : Int} {l l' : List Int} (h : okP a b l = true ∧ okP a' b' l' = true) (hn : a = a' ∧ b = b') : beE a b l a' b' l' = 0 ∧ beL a b l a' b' l' = betw l l' l.length ∧ l.length = l'.length := by
  have h1 : beE a b l a' b' l' = 0 := by unfold beE; rw [if_pos h, if_pos hn]
  have h2 := (okP_spec h.1).2.1
  have h3 := (okP_spec h.2).2.1
  refine ⟨h1, ?_, by rw [h2, h3, hn.1, hn.2]⟩
  unfold beL
  rw [h1]
  rfl
theorem okP_len {a b : Int} {l : List Int} (h : okP a b l = true) : l.length ≤ 112 := by
  have h1 := (okP_spec h).2.1
  have h2 := inn_eq (okP_spec h).1
  omega
def partE (e : Int × Int) : ByteArray := (decB e.1 ++ strOf [61]) ++ decB e.2
theorem edsB_at {l : List Int} {es : List (Int × Int)} (h : edsB l es = true) (hl : l.length ≤ 1073741824) {k : Nat} (hk : k < es.length) : 0 ≤ (es.getD k (0, 0)).1 ∧ (es.getD k (0, 0)).1 < l.length ∧ 0 ≤ (es.getD k (0, 0)).2 ∧ (es.getD k (0, 0)).2 ≤ 2 := by
  obtain ⟨q1, q2, q3, q4⟩ := edsB_spec h k hk
  omega
theorem partE_size {e : Int × Int} (h : 0 ≤ e.1 ∧ e.1 ≤ 1073741824 ∧ 0 ≤ e.2 ∧ e.2 ≤ 2) : (partE e).size ≤ 41 := by
  have h1 := decB_size (n := e.1) (by omega) (by omega)
  have h2 := decB_size (n := e.2) (by omega) (by omega)
  unfold partE
  rw [ByteArray.size_append, ByteArray.size_append, size_strOf]
  simp only [List.length_cons, List.length_nil]
  omega
def edT (es : List (Int × Int)) : ByteArray := joinAll (strOf [32]) (es.map partE)
def etT (a b : Int) (l : List Int) (es : List (Int × Int)) : ByteArray := if veE a b l es = 0 then edT es else ByteArray.empty
theorem etT_ok {a b : Int} {l : List Int} {es : List (Int × Int)} (h : veE a b l es = 0) : etT a b l es = edT es := by unfold etT; rw [if_pos h]
theorem etT_bad {a b : Int} {l : List Int} {es : List (Int × Int)} (h : veE a b l es = 1) : etT a b l es = ByteArray.empty := by unfold etT; rw [if_neg (by rw [h]; decide)]

set_option maxRecDepth 4000 in
/-- impl.hasIndex -/
theorem f_i_hasIndex (w : World) (k : Int) (n : Int) (hn : 0 ≤ n ∧ n ≤ 9223372036854775807) : RetV Try.prog 149 [.int .i64 k, .int .i64 n] w (.bool (decide (0 ≤ k ∧ k ≤ n - 1))) := by
  refine Ret.enter Try.func149 rfl Try.ntmps149 rfl ?_
  refine Run.seq ?_
  refine Run.region ?_
  refine Ops.pure rfl (Pure.assign rfl) ?_
  refine Ops.nil ?_
  refine Run.seq ?_
  refine Run.region ?_
  refine Ops.pure rfl (Pure.move rfl) ?_
  refine Ops.pure rfl (Pure.move rfl) ?_
  refine Ops.pure rfl (Pure.sub rfl rfl (by omega) (by omega)) ?_
  refine Ops.q rfl (QOp.call fn128 rfl (fun w hw => f_i_inRange w _ _ _)) ?_
  refine Ops.pure rfl (Pure.assign rfl) ?_
  refine Ops.nil ?_
  refine Run.ret1 rfl rfl ?_
  rfl

set_option maxRecDepth 4000 in
/-- impl.validEdits -/
theorem f_i_validEdits (w : World) (a : Int) (b : Int) (v : Value) (l : List Int) (u : Value) (es : List (Int × Int)) (hv : Rd w v 1 l.length (ints l)) (hl : l.length ≤ 1073741824) (hu : Rd w u 2 es.length (edits es)) (he : es.length ≤ 2000000) : RetV Try.prog 103 [.agg #[.int .i64 a, .int .i64 b, v], u] w (.bool (edsB l es)) := by
  refine Ret.enter Try.func103 rfl Try.ntmps103 rfl ?_
  refine Run.seq ?_
  refine Run.region ?_
  refine Ops.go rfl (Loud.box rfl rfl) ?_
  rintro _ _ ⟨b2, rfl, rfl⟩
  refine Ops.pure rfl (Pure.assign rfl) ?_
  refine Ops.nil ?_
  refine Run.seq ?_
  refine Run.seq ?_
  refine Run.region ?_
  refine Ops.pure rfl (Pure.move rfl) ?_
  refine Ops.pure rfl (Pure.len sl41 (RdL.old hu) rfl) ?_
  refine Ops.pure rfl (Pure.move rfl) ?_
  refine Ops.nil ?_
  refine Run.block ?_
  refine Run.loop (X := Nat) (fun k => [(1, u), (2, .pointer (some ⟨b2, 0, none⟩)), (7, u), (8, .int .i64 es.length), (9, .int .i64 k)]) (fun k => [.box b2 28 [.int .i64 a, .int .i64 b, v]]) (fun k => k ≤ es.length ∧ ∀ j, j < k → EdOk l es j) (fun k => es.length - k) 0 ?_ ?_ ?_ ?_
  · exact ⟨by omega, by omega⟩
  · exact ⟨rfl, rfl, rfl, rfl, rfl, trivial⟩
  · exact Ext.refl _
  · intro k hinv0
    refine Run.seq ?_
    refine Run.region ?_
    refine Ops.pure rfl (Pure.lss rfl rfl) ?_
    refine Ops.nil ?_
    refine Run.seq ?_
    refine Run.cond rfl (fun c10 => ?_) (fun c10 => ?_)
    · skip
      replace c10 := dT c10
      refine Run.skip ?_
      refine Run.seq ?_
      refine Run.block ?_
      refine Run.seq ?_
      refine Run.region ?_
      refine Ops.pure rfl (Pure.move rfl) ?_
      refine Ops.pure rfl (Pure.idxN sl41 (RdL.old hu) rfl rfl (by first | assumption | omega | (simp; omega))) ?_
      refine Ops.pure rfl (Pure.ldA cell74 rfl (RdL.old hu) (seg_get encE_len (by omega) (0, 0)) rfl (by decide)) ?_
      refine Ops.go rfl (Loud.alloc zero74 rfl) ?_
      rintro _ _ ⟨b6, rfl, rfl⟩
      refine Ops.pure rfl (Pure.assign rfl) ?_
      refine Ops.store (Stores.box 0 rfl rfl rfl size74 (allOne rfl) rfl rfl) ?_
      refine Ops.nil ?_
      refine Run.seq ?_
      refine Any.start follows ?_
      refine Any.take 0 rfl (by kernel_rfl) rfl (QOp.pure (Pure.fieldAddrB fld74_0 rfl)) ?_
      refine Any.take 1 rfl (by kernel_rfl) rfl (QOp.pure (Pure.ldB 0 rfl cell2 rfl rfl)) ?_
      refine Any.take 2 rfl (by kernel_rfl) rfl (QOp.pure (Pure.fieldAddrB fld28_2 rfl)) ?_
      refine Any.take 3 rfl (by kernel_rfl) rfl (QOp.pure (Pure.ldB 1 rfl cell22 rfl rfl)) ?_
      refine Any.take 4 rfl (by kernel_rfl) rfl (QOp.pure (Pure.len sl22 (RdL.old hv) rfl)) ?_
      refine Any.take 5 rfl (by kernel_rfl) rfl (QOp.call fn149 rfl (fun w hw => f_i_hasIndex w _ _ (by omega))) ?_
      refine Any.take 6 rfl (by kernel_rfl) rfl (QOp.pure (Pure.not rfl)) ?_
      refine Any.take 7 rfl (by kernel_rfl) rfl (QOp.pure (Pure.move rfl)) ?_
      refine Any.splitG 21 rfl (fun c21 => ?_) (fun c21 => ?_)
      · skip
        have c21' := nT c21
        refine Any.takeN 8 rfl (by kernel_rfl) rfl rfl rfl rfl (by rw [c21]; decide) ?_
        refine Any.takeN 9 rfl (by kernel_rfl) rfl rfl rfl rfl (by rw [c21]; decide) ?_
        refine Any.takeN 10 rfl (by kernel_rfl) rfl rfl rfl rfl (by rw [c21]; decide) ?_
        refine Any.takeU 11 rfl (by kernel_rfl) rfl rfl rfl rfl ?_
        refine Any.takeU 12 rfl (by kernel_rfl) rfl rfl rfl rfl ?_
        refine Any.takeU 13 rfl (by kernel_rfl) rfl rfl rfl rfl ?_
        refine Any.takeU 14 rfl (by kernel_rfl) rfl rfl rfl rfl ?_
        refine Any.takeU 15 rfl (by kernel_rfl) rfl rfl rfl rfl ?_
        refine Any.takeU 16 rfl (by kernel_rfl) rfl rfl rfl rfl ?_
        refine Any.takeU 17 rfl (by kernel_rfl) rfl rfl rfl rfl ?_
        refine Any.takeU 18 rfl (by kernel_rfl) rfl rfl rfl rfl ?_
        refine Any.takeU 19 rfl (by kernel_rfl) rfl rfl rfl rfl ?_
        refine Any.takeN 20 rfl (by kernel_rfl) rfl rfl rfl rfl (by rw [c21]; decide) ?_
        refine Any.take 21 rfl (by kernel_rfl) rfl (QOp.pure (Pure.pickT rfl c21 rfl)) ?_
        refine Any.take 22 rfl (by kernel_rfl) rfl (QOp.pure (Pure.move rfl)) ?_
        refine Any.takeN 23 rfl (by kernel_rfl) rfl rfl rfl rfl (by decide) ?_
        refine Any.takeN 24 rfl (by kernel_rfl) rfl rfl rfl rfl (by decide) ?_
        refine Any.takeN 25 rfl (by kernel_rfl) rfl rfl rfl rfl (by decide) ?_
        refine Any.takeN 26 rfl (by kernel_rfl) rfl rfl rfl rfl (by decide) ?_
        refine Any.take 27 rfl (by kernel_rfl) rfl (QOp.pure (Pure.pickT rfl rfl rfl)) ?_
        refine Any.take 28 rfl (by kernel_rfl) rfl (QOp.pure (Pure.move rfl)) ?_
        refine Any.takeN 29 rfl (by kernel_rfl) rfl rfl rfl rfl (by decide) ?_
        refine Any.takeN 30 rfl (by kernel_rfl) rfl rfl rfl rfl (by decide) ?_
        refine Any.takeN 31 rfl (by kernel_rfl) rfl rfl rfl rfl (by decide) ?_
        refine Any.takeN 32 rfl (by kernel_rfl) rfl rfl rfl rfl (by decide) ?_
        refine Any.takeN 33 rfl (by kernel_rfl) rfl rfl rfl rfl (by decide) ?_
        refine Any.takeN 34 rfl (by kernel_rfl) rfl rfl rfl rfl (by decide) ?_
        refine Any.takeN 35 rfl (by kernel_rfl) rfl rfl rfl rfl (by decide) ?_
        refine Any.takeN 36 rfl (by kernel_rfl) rfl rfl rfl rfl (by decide) ?_
        refine Any.takeN 37 rfl (by kernel_rfl) rfl rfl rfl rfl (by decide) ?_
        refine Any.take 38 rfl (by kernel_rfl) rfl (QOp.pure (Pure.pickT rfl rfl rfl)) ?_
        refine Any.done (by kernel_rfl) ?_
        refine Run.condE rfl rfl ?_
        refine Run.seq ?_
        refine Run.region ?_
        refine Ops.pure rfl (Pure.assign rfl) ?_
        refine Ops.nil ?_
        refine Run.ret1 rfl rfl ?_
        rw [edsB_no (k := k) (by omega) (fun h => by obtain ⟨q1, q2, q3, q4⟩ := h; omega)]
      · skip
        have c21' := nF c21
        refine Any.takeY 8 rfl (by kernel_rfl) rfl rfl rfl rfl c21 (QOp.pure (Pure.move rfl)) ?_
        refine Any.takeY 9 rfl (by kernel_rfl) rfl rfl rfl rfl c21 (QOp.pure (Pure.gtr rfl rfl)) ?_
        refine Any.takeY 10 rfl (by kernel_rfl) rfl rfl rfl rfl c21 (QOp.pure (Pure.move rfl)) ?_
        refine Any.splitG 24 rfl (fun c24 => ?_) (fun c24 => ?_)
        · skip
          have c24' := dT c24
          refine Any.takeY 11 rfl (by kernel_rfl) rfl rfl rfl rfl c24 (QOp.pure (Pure.fieldAddrB fld74_0 rfl)) ?_
          refine Any.takeY 12 rfl (by kernel_rfl) rfl rfl rfl rfl c24 (QOp.pure (Pure.ldB 0 rfl cell2 rfl rfl)) ?_
          refine Any.takeY 13 rfl (by kernel_rfl) rfl rfl rfl rfl c24 (QOp.pure (Pure.move rfl)) ?_
          refine Any.takeY 14 rfl (by kernel_rfl) rfl rfl rfl rfl c24 (QOp.pure (Pure.move rfl)) ?_
          refine Any.takeY 15 rfl (by kernel_rfl) rfl rfl rfl rfl c24 (QOp.pure (Pure.sub rfl rfl (by omega) (by omega))) ?_
          refine Any.takeY 16 rfl (by kernel_rfl) rfl rfl rfl rfl c24 (QOp.pure (Pure.idx sl41 (RdL.old hu) rfl rfl (by first | assumption | omega | (simp; omega)) (by first | assumption | omega | (simp; omega)))) ?_
          refine Any.takeY 17 rfl (by kernel_rfl) rfl rfl rfl rfl c24 (QOp.pure (Pure.fieldAddr fld74_0 rfl (RdL.old hu) (by first | omega | (simp; omega)))) ?_
          refine Any.takeY 18 rfl (by kernel_rfl) rfl rfl rfl rfl c24 (QOp.pure (Pure.ld cell2 rfl (RdL.old hu) (fget encE_len (by omega) (0, 0) rfl))) ?_
          refine Any.takeY 19 rfl (by kernel_rfl) rfl rfl rfl rfl c24 (QOp.pure (Pure.leq rfl rfl)) ?_
          refine Any.takeY 20 rfl (by kernel_rfl) rfl rfl rfl rfl c21 (QOp.pure (Pure.pickT rfl c24 rfl)) ?_
          refine Any.take 21 rfl (by kernel_rfl) rfl (QOp.pure (Pure.pickF rfl c21 rfl)) ?_
          refine Any.take 22 rfl (by kernel_rfl) rfl (QOp.pure (Pure.move rfl)) ?_
          refine Any.splitG 36 rfl (fun c36 => ?_) (fun c36 => ?_)
          · skip
            have c36' := dT c36
            refine Any.takeN 23 rfl (by kernel_rfl) rfl rfl rfl rfl (by rw [c36]; decide) ?_
            refine Any.takeN 24 rfl (by kernel_rfl) rfl rfl rfl rfl (by rw [c36]; decide) ?_
            refine Any.takeN 25 rfl (by kernel_rfl) rfl rfl rfl rfl (by rw [c36]; decide) ?_
            refine Any.takeN 26 rfl (by kernel_rfl) rfl rfl rfl rfl (by rw [c36]; decide) ?_
            refine Any.take 27 rfl (by kernel_rfl) rfl (QOp.pure (Pure.pickT rfl c36 rfl)) ?_
            refine Any.take 28 rfl (by kernel_rfl) rfl (QOp.pure (Pure.move rfl)) ?_
            refine Any.takeN 29 rfl (by kernel_rfl) rfl rfl rfl rfl (by decide) ?_
            refine Any.takeN 30 rfl (by kernel_rfl) rfl rfl rfl rfl (by decide) ?_
            refine Any.takeN 31 rfl (by kernel_rfl) rfl rfl rfl rfl (by decide) ?_
            refine Any.takeN 32 rfl (by kernel_rfl) rfl rfl rfl rfl (by decide) ?_
            refine Any.takeN 33 rfl (by kernel_rfl) rfl rfl rfl rfl (by decide) ?_
            refine Any.takeN 34 rfl (by kernel_rfl) rfl rfl rfl rfl (by decide) ?_
            refine Any.takeN 35 rfl (by kernel_rfl) rfl rfl rfl rfl (by decide) ?_
            refine Any.takeN 36 rfl (by kernel_rfl) rfl rfl rfl rfl (by decide) ?_
            refine Any.takeN 37 rfl (by kernel_rfl) rfl rfl rfl rfl (by decide) ?_
            refine Any.take 38 rfl (by kernel_rfl) rfl (QOp.pure (Pure.pickT rfl rfl rfl)) ?_
            refine Any.done (by kernel_rfl) ?_
            refine Run.condE rfl rfl ?_
            refine Run.seq ?_
            refine Run.region ?_
            refine Ops.pure rfl (Pure.assign rfl) ?_
            refine Ops.nil ?_
            refine Run.ret1 rfl rfl ?_
            rw [edsB_no (k := k) (by omega) (fun h => by obtain ⟨q1, q2, q3, q4⟩ := h; omega)]
          · skip
            have c36' := dF c36
            refine Any.takeY 23 rfl (by kernel_rfl) rfl rfl rfl rfl c36 (QOp.pure (Pure.fieldAddrB fld74_1 rfl)) ?_
            refine Any.takeY 24 rfl (by kernel_rfl) rfl rfl rfl rfl c36 (QOp.pure (Pure.ldB 0 rfl cell2 rfl rfl)) ?_
            refine Any.takeY 25 rfl (by kernel_rfl) rfl rfl rfl rfl c36 (QOp.call fn117 rfl (fun w hw => f_i_validBreak w _)) ?_
            refine Any.takeY 26 rfl (by kernel_rfl) rfl rfl rfl rfl c36 (QOp.pure (Pure.not rfl)) ?_
            refine Any.take 27 rfl (by kernel_rfl) rfl (QOp.pure (Pure.pickF rfl c36 rfl)) ?_
            refine Any.take 28 rfl (by kernel_rfl) rfl (QOp.pure (Pure.move rfl)) ?_
            refine Any.splitG 42 rfl (fun c42 => ?_) (fun c42 => ?_)
            · skip
              have c42' := nT c42
              refine Any.takeN 29 rfl (by kernel_rfl) rfl rfl rfl rfl (by rw [c42]; decide) ?_
              refine Any.takeN 30 rfl (by kernel_rfl) rfl rfl rfl rfl (by rw [c42]; decide) ?_
              refine Any.takeN 31 rfl (by kernel_rfl) rfl rfl rfl rfl (by rw [c42]; decide) ?_
              refine Any.takeN 32 rfl (by kernel_rfl) rfl rfl rfl rfl (by rw [c42]; decide) ?_
              refine Any.takeN 33 rfl (by kernel_rfl) rfl rfl rfl rfl (by rw [c42]; decide) ?_
              refine Any.takeN 34 rfl (by kernel_rfl) rfl rfl rfl rfl (by rw [c42]; decide) ?_
              refine Any.takeN 35 rfl (by kernel_rfl) rfl rfl rfl rfl (by rw [c42]; decide) ?_
              refine Any.takeN 36 rfl (by kernel_rfl) rfl rfl rfl rfl (by rw [c42]; decide) ?_
              refine Any.takeN 37 rfl (by kernel_rfl) rfl rfl rfl rfl (by rw [c42]; decide) ?_
              refine Any.take 38 rfl (by kernel_rfl) rfl (QOp.pure (Pure.pickT rfl c42 rfl)) ?_
              refine Any.done (by kernel_rfl) ?_
              refine Run.condE rfl rfl ?_
              refine Run.seq ?_
              refine Run.region ?_
              refine Ops.pure rfl (Pure.assign rfl) ?_
              refine Ops.nil ?_
              refine Run.ret1 rfl rfl ?_
              rw [edsB_no (k := k) (by omega) (fun h => by obtain ⟨q1, q2, q3, q4⟩ := h; omega)]
            · skip
              have c42' := nF c42
              refine Any.takeY 29 rfl (by kernel_rfl) rfl rfl rfl rfl c42 (QOp.pure (Pure.fieldAddrB fld74_1 rfl)) ?_
              refine Any.takeY 30 rfl (by kernel_rfl) rfl rfl rfl rfl c42 (QOp.pure (Pure.ldB 0 rfl cell2 rfl rfl)) ?_
              refine Any.takeY 31 rfl (by kernel_rfl) rfl rfl rfl rfl c42 (QOp.pure (Pure.fieldAddrB fld28_2 rfl)) ?_
              refine Any.takeY 32 rfl (by kernel_rfl) rfl rfl rfl rfl c42 (QOp.pure (Pure.ldB 1 rfl cell22 rfl rfl)) ?_
              refine Any.takeY 33 rfl (by kernel_rfl) rfl rfl rfl rfl c42 (QOp.pure (Pure.fieldAddrB fld74_0 rfl)) ?_
              refine Any.takeY 34 rfl (by kernel_rfl) rfl rfl rfl rfl c42 (QOp.pure (Pure.ldB 0 rfl cell2 rfl rfl)) ?_
              refine Any.takeY 35 rfl (by kernel_rfl) rfl rfl rfl rfl c42 (QOp.pure (Pure.idx1 sl22 (RdL.old hv) rfl rfl (by first | assumption | omega | (simp; omega)) (by first | assumption | omega | (simp; omega)))) ?_
              refine Any.takeY 36 rfl (by kernel_rfl) rfl rfl rfl rfl c42 (QOp.pure (Pure.ld cell2 rfl (RdL.old hv) (by first | exact ints_get (by omega) | exact bools_get (by omega) | exact strs_get (by omega) | exact vals_get (by first | omega | (simp; omega))))) ?_
              refine Any.takeY 37 rfl (by kernel_rfl) rfl rfl rfl rfl c42 (QOp.pure (Pure.eql rfl rfl)) ?_
              refine Any.take 38 rfl (by kernel_rfl) rfl (QOp.pure (Pure.pickF rfl c42 rfl)) ?_
              refine Any.done (by kernel_rfl) ?_
              refine Run.cond rfl (fun c52 => ?_) (fun c52 => ?_)
              · skip
                replace c52 := dT c52
                refine Run.seq ?_
                refine Run.region ?_
                refine Ops.pure rfl (Pure.assign rfl) ?_
                refine Ops.nil ?_
                refine Run.ret1 rfl rfl ?_
                rw [edsB_no (k := k) (by omega) (fun h => by obtain ⟨q1, q2, q3, q4⟩ := h; omega)]
              · skip
                replace c52 := dF c52
                refine Run.skip ?_
                refine Run.blk ?_
                refine Run.region ?_
                refine Ops.pure rfl (Pure.add rfl rfl (by omega) (by omega)) ?_
                refine Ops.pure rfl (Pure.move rfl) ?_
                refine Ops.nil ?_
                refine Run.asrt ?_
                exact ⟨k + 1, ⟨⟨by omega, fun j hj => step_lt (p := fun j => EdOk l es j) hj hinv0.2 ⟨by omega, fun h0 => by omega, by omega, by omega⟩⟩, by omega⟩, ⟨rfl, rfl, rfl, rfl, rfl, trivial⟩, Ext.right [_] _⟩
        · skip
          have c24' := dF c24
          refine Any.takeN 11 rfl (by kernel_rfl) rfl rfl rfl rfl (by rw [c24]; decide) ?_
          refine Any.takeN 12 rfl (by kernel_rfl) rfl rfl rfl rfl (by rw [c24]; decide) ?_
          refine Any.takeN 13 rfl (by kernel_rfl) rfl rfl rfl rfl (by rw [c24]; decide) ?_
          refine Any.takeN 14 rfl (by kernel_rfl) rfl rfl rfl rfl (by rw [c24]; decide) ?_
          refine Any.takeN 15 rfl (by kernel_rfl) rfl rfl rfl rfl (by rw [c24]; decide) ?_
          refine Any.takeN 16 rfl (by kernel_rfl) rfl rfl rfl rfl (by rw [c24]; decide) ?_
          refine Any.takeN 17 rfl (by kernel_rfl) rfl rfl rfl rfl (by rw [c24]; decide) ?_
          refine Any.takeN 18 rfl (by kernel_rfl) rfl rfl rfl rfl (by rw [c24]; decide) ?_
          refine Any.takeN 19 rfl (by kernel_rfl) rfl rfl rfl rfl (by rw [c24]; decide) ?_
          refine Any.takeY 20 rfl (by kernel_rfl) rfl rfl rfl rfl c21 (QOp.pure (Pure.pickF rfl c24 rfl)) ?_
          refine Any.take 21 rfl (by kernel_rfl) rfl (QOp.pure (Pure.pickF rfl c21 rfl)) ?_
          refine Any.take 22 rfl (by kernel_rfl) rfl (QOp.pure (Pure.move rfl)) ?_
          refine Any.takeY 23 rfl (by kernel_rfl) rfl rfl rfl rfl rfl (QOp.pure (Pure.fieldAddrB fld74_1 rfl)) ?_
          refine Any.takeY 24 rfl (by kernel_rfl) rfl rfl rfl rfl rfl (QOp.pure (Pure.ldB 0 rfl cell2 rfl rfl)) ?_
          refine Any.takeY 25 rfl (by kernel_rfl) rfl rfl rfl rfl rfl (QOp.call fn117 rfl (fun w hw => f_i_validBreak w _)) ?_
          refine Any.takeY 26 rfl (by kernel_rfl) rfl rfl rfl rfl rfl (QOp.pure (Pure.not rfl)) ?_
          refine Any.take 27 rfl (by kernel_rfl) rfl (QOp.pure (Pure.pickF rfl rfl rfl)) ?_
          refine Any.take 28 rfl (by kernel_rfl) rfl (QOp.pure (Pure.move rfl)) ?_
          refine Any.splitG 42 rfl (fun c42 => ?_) (fun c42 => ?_)
          · skip
            have c42' := nT c42
            refine Any.takeN 29 rfl (by kernel_rfl) rfl rfl rfl rfl (by rw [c42]; decide) ?_
            refine Any.takeN 30 rfl (by kernel_rfl) rfl rfl rfl rfl (by rw [c42]; decide) ?_
            refine Any.takeN 31 rfl (by kernel_rfl) rfl rfl rfl rfl (by rw [c42]; decide) ?_
            refine Any.takeN 32 rfl (by kernel_rfl) rfl rfl rfl rfl (by rw [c42]; decide) ?_
            refine Any.takeN 33 rfl (by kernel_rfl) rfl rfl rfl rfl (by rw [c42]; decide) ?_
            refine Any.takeN 34 rfl (by kernel_rfl) rfl rfl rfl rfl (by rw [c42]; decide) ?_
            refine Any.takeN 35 rfl (by kernel_rfl) rfl rfl rfl rfl (by rw [c42]; decide) ?_
            refine Any.takeN 36 rfl (by kernel_rfl) rfl rfl rfl rfl (by rw [c42]; decide) ?_
            refine Any.takeN 37 rfl (by kernel_rfl) rfl rfl rfl rfl (by rw [c42]; decide) ?_
            refine Any.take 38 rfl (by kernel_rfl) rfl (QOp.pure (Pure.pickT rfl c42 rfl)) ?_
            refine Any.done (by kernel_rfl) ?_
            refine Run.condE rfl rfl ?_
            refine Run.seq ?_
            refine Run.region ?_
            refine Ops.pure rfl (Pure.assign rfl) ?_
            refine Ops.nil ?_
            refine Run.ret1 rfl rfl ?_
            rw [edsB_no (k := k) (by omega) (fun h => by obtain ⟨q1, q2, q3, q4⟩ := h; omega)]
          · skip
            have c42' := nF c42
            refine Any.takeY 29 rfl (by kernel_rfl) rfl rfl rfl rfl c42 (QOp.pure (Pure.fieldAddrB fld74_1 rfl)) ?_
            refine Any.takeY 30 rfl (by kernel_rfl) rfl rfl rfl rfl c42 (QOp.pure (Pure.ldB 0 rfl cell2 rfl rfl)) ?_
            refine Any.takeY 31 rfl (by kernel_rfl) rfl rfl rfl rfl c42 (QOp.pure (Pure.fieldAddrB fld28_2 rfl)) ?_
            refine Any.takeY 32 rfl (by kernel_rfl) rfl rfl rfl rfl c42 (QOp.pure (Pure.ldB 1 rfl cell22 rfl rfl)) ?_
            refine Any.takeY 33 rfl (by kernel_rfl) rfl rfl rfl rfl c42 (QOp.pure (Pure.fieldAddrB fld74_0 rfl)) ?_
            refine Any.takeY 34 rfl (by kernel_rfl) rfl rfl rfl rfl c42 (QOp.pure (Pure.ldB 0 rfl cell2 rfl rfl)) ?_
            refine Any.takeY 35 rfl (by kernel_rfl) rfl rfl rfl rfl c42 (QOp.pure (Pure.idx1 sl22 (RdL.old hv) rfl rfl (by first | assumption | omega | (simp; omega)) (by first | assumption | omega | (simp; omega)))) ?_
            refine Any.takeY 36 rfl (by kernel_rfl) rfl rfl rfl rfl c42 (QOp.pure (Pure.ld cell2 rfl (RdL.old hv) (by first | exact ints_get (by omega) | exact bools_get (by omega) | exact strs_get (by omega) | exact vals_get (by first | omega | (simp; omega))))) ?_
            refine Any.takeY 37 rfl (by kernel_rfl) rfl rfl rfl rfl c42 (QOp.pure (Pure.eql rfl rfl)) ?_
            refine Any.take 38 rfl (by kernel_rfl) rfl (QOp.pure (Pure.pickF rfl c42 rfl)) ?_
            refine Any.done (by kernel_rfl) ?_
            refine Run.cond rfl (fun c52 => ?_) (fun c52 => ?_)
            · skip
              replace c52 := dT c52
              refine Run.seq ?_
              refine Run.region ?_
              refine Ops.pure rfl (Pure.assign rfl) ?_
              refine Ops.nil ?_
              refine Run.ret1 rfl rfl ?_
              rw [edsB_no (k := k) (by omega) (fun h => by obtain ⟨q1, q2, q3, q4⟩ := h; omega)]
            · skip
              replace c52 := dF c52
              refine Run.skip ?_
              refine Run.blk ?_
              refine Run.region ?_
              refine Ops.pure rfl (Pure.add rfl rfl (by omega) (by omega)) ?_
              refine Ops.pure rfl (Pure.move rfl) ?_
              refine Ops.nil ?_
              refine Run.asrt ?_
              exact ⟨k + 1, ⟨⟨by omega, fun j hj => step_lt (p := fun j => EdOk l es j) hj hinv0.2 ⟨by omega, fun h0 => by omega, by omega, by omega⟩⟩, by omega⟩, ⟨rfl, rfl, rfl, rfl, rfl, trivial⟩, Ext.right [_] _⟩
    · skip
      replace c10 := dF c10
      refine Run.exit rfl ?_
      refine Run.seq ?_
      refine Run.region ?_
      refine Ops.pure rfl (Pure.assign rfl) ?_
      refine Ops.nil ?_
      refine Run.ret1 rfl rfl ?_
      rw [edsB_yes (by omega) hinv0.2]

set_option maxRecDepth 4000 in
/-- spec.l11List -/
theorem f_s_l11List (w : World) (p : Nat) (a : Int) (b : Int) (v : Value) (l : List Int) (u : Value) (es : List (Int × Int)) (hp : Rd w (boxS p) 3 1 [.int .i64 a, .int .i64 b, v]) (hv : Rd w v 1 l.length (ints l)) (hl : l.length ≤ 1073741824) (hu : Rd w u 2 es.length (edits es)) (he : es.length ≤ 2000000) : RetV Try.prog 102 [.pointer (some ⟨p, 0, none⟩), u] w (.bool (edsB l es)) := by
  refine Ret.enter Try.func102 rfl Try.ntmps102 rfl ?_
  refine Run.seq ?_
  refine Run.region ?_
  refine Ops.pure rfl (Pure.assign rfl) ?_
  refine Ops.nil ?_
  refine Run.seq ?_
  refine Run.seq ?_
  refine Run.region ?_
  refine Ops.pure rfl (Pure.assign rfl) ?_
  refine Ops.nil ?_
  refine Run.block ?_
  refine Run.loop (X := Nat) (fun k => [(0, .pointer (some ⟨p, 0, none⟩)), (1, u), (5, .int .i64 k)]) (fun k => []) (fun k => k ≤ es.length ∧ ∀ j, j < k → EdOk l es j) (fun k => es.length - k) 0 ?_ ?_ ?_ ?_
  · exact ⟨by omega, by omega⟩
  · exact ⟨rfl, rfl, rfl, trivial⟩
  · exact Ext.refl _
  · intro k hinv0
    refine Run.seq ?_
    refine Run.seq ?_
    refine Run.region ?_
    refine Ops.pure rfl (Pure.move rfl) ?_
    refine Ops.pure rfl (Pure.move rfl) ?_
    refine Ops.pure rfl (Pure.len sl41 (RdL.old hu) rfl) ?_
    refine Ops.pure rfl (Pure.lss rfl rfl) ?_
    refine Ops.nil ?_
    refine Run.cond rfl (fun c10 => ?_) (fun c10 => ?_)
    · skip
      replace c10 := dT c10
      refine Run.skip ?_
      refine Run.seq ?_
      refine Run.block ?_
      refine Run.seq ?_
      refine Run.region ?_
      refine Ops.pure rfl (Pure.move rfl) ?_
      refine Ops.pure rfl (Pure.move rfl) ?_
      refine Ops.pure rfl (Pure.idxN sl41 (RdL.old hu) rfl rfl (by first | assumption | omega | (simp; omega))) ?_
      refine Ops.pure rfl (Pure.fieldAddr fld74_0 rfl (RdL.old hu) (by first | omega | (simp; omega))) ?_
      refine Ops.pure rfl (Pure.ld cell2 rfl (RdL.old hu) (fget encE_len (by omega) (0, 0) rfl)) ?_
      refine Ops.pure rfl (Pure.assign rfl) ?_
      refine Ops.nil ?_
      refine Run.seq ?_
      refine Run.seq ?_
      refine Run.region ?_
      refine Ops.pure rfl (Pure.move rfl) ?_
      refine Ops.pure rfl (Pure.move rfl) ?_
      refine Ops.pure rfl (Pure.nilchk rfl) ?_
      refine Ops.pure rfl (Pure.fieldAddrB fld28_2 rfl) ?_
      refine Ops.pure rfl (Pure.ldP cell22 rfl (RdL.old hp) rfl) ?_
      refine Ops.pure rfl (Pure.len sl22 (RdL.old hv) rfl) ?_
      refine Ops.pure rfl (Pure.sub rfl rfl (by omega) (by omega)) ?_
      refine Ops.q rfl (QOp.call fn121 rfl (fun w hw => f_s_l00In w _ _ _)) ?_
      refine Ops.pure rfl (Pure.not rfl) ?_
      refine Ops.pure rfl (Pure.move rfl) ?_
      refine Ops.guard rfl rfl rfl rfl (fun c27 => ?_) (fun c27 => ?_)
      · skip
        have c27' := nF c27
        refine Ops.pure rfl (Pure.move rfl) ?_
        refine Ops.guardY rfl rfl rfl c27 ?_
        refine Ops.pure rfl (Pure.gtr rfl rfl) ?_
        refine Ops.guardY rfl rfl rfl c27 ?_
        refine Ops.pure rfl (Pure.move rfl) ?_
        refine Ops.guard rfl rfl rfl rfl (fun c30 => ?_) (fun c30 => ?_)
        · skip
          have c30' := dT c30
          refine Ops.pure rfl (Pure.move rfl) ?_
          refine Ops.guardY rfl rfl rfl c30 ?_
          refine Ops.pure rfl (Pure.move rfl) ?_
          refine Ops.guardY rfl rfl rfl c30 ?_
          refine Ops.pure rfl (Pure.move rfl) ?_
          refine Ops.guardY rfl rfl rfl c30 ?_
          refine Ops.pure rfl (Pure.sub rfl rfl (by omega) (by omega)) ?_
          refine Ops.guardY rfl rfl rfl c30 ?_
          refine Ops.pure rfl (Pure.idx sl41 (RdL.old hu) rfl rfl (by first | assumption | omega | (simp; omega)) (by first | assumption | omega | (simp; omega))) ?_
          refine Ops.guardY rfl rfl rfl c30 ?_
          refine Ops.pure rfl (Pure.fieldAddr fld74_0 rfl (RdL.old hu) (by first | omega | (simp; omega))) ?_
          refine Ops.guardY rfl rfl rfl c30 ?_
          refine Ops.pure rfl (Pure.ld cell2 rfl (RdL.old hu) (fget encE_len (by omega) (0, 0) rfl)) ?_
          refine Ops.guardY rfl rfl rfl c30 ?_
          refine Ops.pure rfl (Pure.leq rfl rfl) ?_
          refine Ops.guardY rfl rfl rfl c27 ?_
          refine Ops.pure rfl (Pure.pickT rfl c30 rfl) ?_
          refine Ops.pure rfl (Pure.pickF rfl c27 rfl) ?_
          refine Ops.nil ?_
          refine Run.cond rfl (fun c40 => ?_) (fun c40 => ?_)
          · skip
            replace c40 := dT c40
            refine Run.seq ?_
            refine Run.region ?_
            refine Ops.pure rfl (Pure.assign rfl) ?_
            refine Ops.nil ?_
            refine Run.ret1 rfl rfl ?_
            rw [edsB_no (k := k) (by omega) (fun h => by obtain ⟨q1, q2, q3, q4⟩ := h; omega)]
          · skip
            replace c40 := dF c40
            refine Run.skip ?_
            refine Run.seq ?_
            refine Any.start follows ?_
            refine Any.take 0 rfl (by kernel_rfl) rfl (QOp.pure (Pure.move rfl)) ?_
            refine Any.take 1 rfl (by kernel_rfl) rfl (QOp.pure (Pure.move rfl)) ?_
            refine Any.take 2 rfl (by kernel_rfl) rfl (QOp.pure (Pure.idxN sl41 (RdL.old hu) rfl rfl (by first | assumption | omega | (simp; omega)))) ?_
            refine Any.take 3 rfl (by kernel_rfl) rfl (QOp.pure (Pure.fieldAddr fld74_1 rfl (RdL.old hu) (by first | omega | (simp; omega)))) ?_
            refine Any.take 4 rfl (by kernel_rfl) rfl (QOp.pure (Pure.ld cell2 rfl (RdL.old hu) (fget encE_len (by omega) (0, 0) rfl))) ?_
            refine Any.take 5 rfl (by kernel_rfl) rfl (QOp.call fn148 rfl (fun w hw => f_s_l02Kind w _)) ?_
            refine Any.take 6 rfl (by kernel_rfl) rfl (QOp.pure (Pure.not rfl)) ?_
            refine Any.take 7 rfl (by kernel_rfl) rfl (QOp.pure (Pure.move rfl)) ?_
            refine Any.splitG 48 rfl (fun c48 => ?_) (fun c48 => ?_)
            · skip
              have c48' := nT c48
              refine Any.takeN 8 rfl (by kernel_rfl) rfl rfl rfl rfl (by rw [c48]; decide) ?_
              refine Any.takeN 9 rfl (by kernel_rfl) rfl rfl rfl rfl (by rw [c48]; decide) ?_
              refine Any.takeN 10 rfl (by kernel_rfl) rfl rfl rfl rfl (by rw [c48]; decide) ?_
              refine Any.takeN 11 rfl (by kernel_rfl) rfl rfl rfl rfl (by rw [c48]; decide) ?_
              refine Any.takeN 12 rfl (by kernel_rfl) rfl rfl rfl rfl (by rw [c48]; decide) ?_
              refine Any.takeN 13 rfl (by kernel_rfl) rfl rfl rfl rfl (by rw [c48]; decide) ?_
              refine Any.takeN 14 rfl (by kernel_rfl) rfl rfl rfl rfl (by rw [c48]; decide) ?_
              refine Any.takeN 15 rfl (by kernel_rfl) rfl rfl rfl rfl (by rw [c48]; decide) ?_
              refine Any.takeN 16 rfl (by kernel_rfl) rfl rfl rfl rfl (by rw [c48]; decide) ?_
              refine Any.takeN 17 rfl (by kernel_rfl) rfl rfl rfl rfl (by rw [c48]; decide) ?_
              refine Any.takeN 18 rfl (by kernel_rfl) rfl rfl rfl rfl (by rw [c48]; decide) ?_
              refine Any.takeN 19 rfl (by kernel_rfl) rfl rfl rfl rfl (by rw [c48]; decide) ?_
              refine Any.takeN 20 rfl (by kernel_rfl) rfl rfl rfl rfl (by rw [c48]; decide) ?_
              refine Any.take 21 rfl (by kernel_rfl) rfl (QOp.pure (Pure.pickT rfl c48 rfl)) ?_
              refine Any.done (by kernel_rfl) ?_
              refine Run.condE rfl rfl ?_
              refine Run.seq ?_
              refine Run.region ?_
              refine Ops.pure rfl (Pure.assign rfl) ?_
              refine Ops.nil ?_
              refine Run.ret1 rfl rfl ?_
              rw [edsB_no (k := k) (by omega) (fun h => by obtain ⟨q1, q2, q3, q4⟩ := h; omega)]
            · skip
              have c48' := nF c48
              refine Any.takeY 8 rfl (by kernel_rfl) rfl rfl rfl rfl c48 (QOp.pure (Pure.move rfl)) ?_
              refine Any.takeY 9 rfl (by kernel_rfl) rfl rfl rfl rfl c48 (QOp.pure (Pure.move rfl)) ?_
              refine Any.takeY 10 rfl (by kernel_rfl) rfl rfl rfl rfl c48 (QOp.pure (Pure.idxN sl41 (RdL.old hu) rfl rfl (by first | assumption | omega | (simp; omega)))) ?_
              refine Any.takeY 11 rfl (by kernel_rfl) rfl rfl rfl rfl c48 (QOp.pure (Pure.fieldAddr fld74_1 rfl (RdL.old hu) (by first | omega | (simp; omega)))) ?_
              refine Any.takeY 12 rfl (by kernel_rfl) rfl rfl rfl rfl c48 (QOp.pure (Pure.ld cell2 rfl (RdL.old hu) (fget encE_len (by omega) (0, 0) rfl))) ?_
              refine Any.takeY 13 rfl (by kernel_rfl) rfl rfl rfl rfl c48 (QOp.pure (Pure.move rfl)) ?_
              refine Any.takeY 14 rfl (by kernel_rfl) rfl rfl rfl rfl c48 (QOp.pure (Pure.nilchk rfl)) ?_
              refine Any.takeY 15 rfl (by kernel_rfl) rfl rfl rfl rfl c48 (QOp.pure (Pure.fieldAddrB fld28_2 rfl)) ?_
              refine Any.takeY 16 rfl (by kernel_rfl) rfl rfl rfl rfl c48 (QOp.pure (Pure.ldP cell22 rfl (RdL.old hp) rfl)) ?_
              refine Any.takeY 17 rfl (by kernel_rfl) rfl rfl rfl rfl c48 (QOp.pure (Pure.move rfl)) ?_
              refine Any.takeY 18 rfl (by kernel_rfl) rfl rfl rfl rfl c48 (QOp.pure (Pure.idx1 sl22 (RdL.old hv) rfl rfl (by first | assumption | omega | (simp; omega)) (by first | assumption | omega | (simp; omega)))) ?_
              refine Any.takeY 19 rfl (by kernel_rfl) rfl rfl rfl rfl c48 (QOp.pure (Pure.ld cell2 rfl (RdL.old hv) (by first | exact ints_get (by omega) | exact bools_get (by omega) | exact strs_get (by omega) | exact vals_get (by first | omega | (simp; omega))))) ?_
              refine Any.takeY 20 rfl (by kernel_rfl) rfl rfl rfl rfl c48 (QOp.pure (Pure.eql rfl rfl)) ?_
              refine Any.take 21 rfl (by kernel_rfl) rfl (QOp.pure (Pure.pickF rfl c48 rfl)) ?_
              refine Any.done (by kernel_rfl) ?_
              refine Run.cond rfl (fun c62 => ?_) (fun c62 => ?_)
              · skip
                replace c62 := dT c62
                refine Run.seq ?_
                refine Run.region ?_
                refine Ops.pure rfl (Pure.assign rfl) ?_
                refine Ops.nil ?_
                refine Run.ret1 rfl rfl ?_
                rw [edsB_no (k := k) (by omega) (fun h => by obtain ⟨q1, q2, q3, q4⟩ := h; omega)]
              · skip
                replace c62 := dF c62
                refine Run.skip ?_
                refine Run.blk ?_
                refine Run.region ?_
                refine Ops.pure rfl (Pure.move rfl) ?_
                refine Ops.pure rfl (Pure.add rfl rfl (by omega) (by omega)) ?_
                refine Ops.pure rfl (Pure.assign rfl) ?_
                refine Ops.nil ?_
                refine Run.asrt ?_
                exact ⟨k + 1, ⟨⟨by omega, fun j hj => step_lt (p := fun j => EdOk l es j) hj hinv0.2 ⟨by omega, fun h0 => by omega, by omega, by omega⟩⟩, by omega⟩, ⟨rfl, rfl, rfl, trivial⟩, Ext.nil _⟩
        · skip
          replace c30 := Bool.eq_false_of_ne c30
          have c30' := dF c30
          refine Ops.guardN rfl rfl rfl rfl (by rw [c30]; decide) ?_
          refine Ops.guardN rfl rfl rfl rfl (by rw [c30]; decide) ?_
          refine Ops.guardN rfl rfl rfl rfl (by rw [c30]; decide) ?_
          refine Ops.guardN rfl rfl rfl rfl (by rw [c30]; decide) ?_
          refine Ops.guardN rfl rfl rfl rfl (by rw [c30]; decide) ?_
          refine Ops.guardN rfl rfl rfl rfl (by rw [c30]; decide) ?_
          refine Ops.guardN rfl rfl rfl rfl (by rw [c30]; decide) ?_
          refine Ops.guardY rfl rfl rfl c27 ?_
          refine Ops.pure rfl (Pure.pickF rfl c30 rfl) ?_
          refine Ops.pure rfl (Pure.pickF rfl c27 rfl) ?_
          refine Ops.nil ?_
          refine Run.condEF rfl rfl ?_
          refine Run.skip ?_
          refine Run.seq ?_
          refine Any.start follows ?_
          refine Any.take 0 rfl (by kernel_rfl) rfl (QOp.pure (Pure.move rfl)) ?_
          refine Any.take 1 rfl (by kernel_rfl) rfl (QOp.pure (Pure.move rfl)) ?_
          refine Any.take 2 rfl (by kernel_rfl) rfl (QOp.pure (Pure.idxN sl41 (RdL.old hu) rfl rfl (by first | assumption | omega | (simp; omega)))) ?_
          refine Any.take 3 rfl (by kernel_rfl) rfl (QOp.pure (Pure.fieldAddr fld74_1 rfl (RdL.old hu) (by first | omega | (simp; omega)))) ?_
          refine Any.take 4 rfl (by kernel_rfl) rfl (QOp.pure (Pure.ld cell2 rfl (RdL.old hu) (fget encE_len (by omega) (0, 0) rfl))) ?_
          refine Any.take 5 rfl (by kernel_rfl) rfl (QOp.call fn148 rfl (fun w hw => f_s_l02Kind w _)) ?_
          refine Any.take 6 rfl (by kernel_rfl) rfl (QOp.pure (Pure.not rfl)) ?_
          refine Any.take 7 rfl (by kernel_rfl) rfl (QOp.pure (Pure.move rfl)) ?_
          refine Any.splitG 48 rfl (fun c48 => ?_) (fun c48 => ?_)
          · skip
            have c48' := nT c48
            refine Any.takeN 8 rfl (by kernel_rfl) rfl rfl rfl rfl (by rw [c48]; decide) ?_
            refine Any.takeN 9 rfl (by kernel_rfl) rfl rfl rfl rfl (by rw [c48]; decide) ?_
            refine Any.takeN 10 rfl (by kernel_rfl) rfl rfl rfl rfl (by rw [c48]; decide) ?_
            refine Any.takeN 11 rfl (by kernel_rfl) rfl rfl rfl rfl (by rw [c48]; decide) ?_
            refine Any.takeN 12 rfl (by kernel_rfl) rfl rfl rfl rfl (by rw [c48]; decide) ?_
            refine Any.takeN 13 rfl (by kernel_rfl) rfl rfl rfl rfl (by rw [c48]; decide) ?_
            refine Any.takeN 14 rfl (by kernel_rfl) rfl rfl rfl rfl (by rw [c48]; decide) ?_
            refine Any.takeN 15 rfl (by kernel_rfl) rfl rfl rfl rfl (by rw [c48]; decide) ?_
            refine Any.takeN 16 rfl (by kernel_rfl) rfl rfl rfl rfl (by rw [c48]; decide) ?_
            refine Any.takeN 17 rfl (by kernel_rfl) rfl rfl rfl rfl (by rw [c48]; decide) ?_
            refine Any.takeN 18 rfl (by kernel_rfl) rfl rfl rfl rfl (by rw [c48]; decide) ?_
            refine Any.takeN 19 rfl (by kernel_rfl) rfl rfl rfl rfl (by rw [c48]; decide) ?_
            refine Any.takeN 20 rfl (by kernel_rfl) rfl rfl rfl rfl (by rw [c48]; decide) ?_
            refine Any.take 21 rfl (by kernel_rfl) rfl (QOp.pure (Pure.pickT rfl c48 rfl)) ?_
            refine Any.done (by kernel_rfl) ?_
            refine Run.condE rfl rfl ?_
            refine Run.seq ?_
            refine Run.region ?_
            refine Ops.pure rfl (Pure.assign rfl) ?_
            refine Ops.nil ?_
            refine Run.ret1 rfl rfl ?_
            rw [edsB_no (k := k) (by omega) (fun h => by obtain ⟨q1, q2, q3, q4⟩ := h; omega)]
          · skip
            have c48' := nF c48
            refine Any.takeY 8 rfl (by kernel_rfl) rfl rfl rfl rfl c48 (QOp.pure (Pure.move rfl)) ?_
            refine Any.takeY 9 rfl (by kernel_rfl) rfl rfl rfl rfl c48 (QOp.pure (Pure.move rfl)) ?_
            refine Any.takeY 10 rfl (by kernel_rfl) rfl rfl rfl rfl c48 (QOp.pure (Pure.idxN sl41 (RdL.old hu) rfl rfl (by first | assumption | omega | (simp; omega)))) ?_
            refine Any.takeY 11 rfl (by kernel_rfl) rfl rfl rfl rfl c48 (QOp.pure (Pure.fieldAddr fld74_1 rfl (RdL.old hu) (by first | omega | (simp; omega)))) ?_
            refine Any.takeY 12 rfl (by kernel_rfl) rfl rfl rfl rfl c48 (QOp.pure (Pure.ld cell2 rfl (RdL.old hu) (fget encE_len (by omega) (0, 0) rfl))) ?_
            refine Any.takeY 13 rfl (by kernel_rfl) rfl rfl rfl rfl c48 (QOp.pure (Pure.move rfl)) ?_
            refine Any.takeY 14 rfl (by kernel_rfl) rfl rfl rfl rfl c48 (QOp.pure (Pure.nilchk rfl)) ?_
            refine Any.takeY 15 rfl (by kernel_rfl) rfl rfl rfl rfl c48 (QOp.pure (Pure.fieldAddrB fld28_2 rfl)) ?_
            refine Any.takeY 16 rfl (by kernel_rfl) rfl rfl rfl rfl c48 (QOp.pure (Pure.ldP cell22 rfl (RdL.old hp) rfl)) ?_
            refine Any.takeY 17 rfl (by kernel_rfl) rfl rfl rfl rfl c48 (QOp.pure (Pure.move rfl)) ?_
            refine Any.takeY 18 rfl (by kernel_rfl) rfl rfl rfl rfl c48 (QOp.pure (Pure.idx1 sl22 (RdL.old hv) rfl rfl (by first | assumption | omega | (simp; omega)) (by first | assumption | omega | (simp; omega)))) ?_
            refine Any.takeY 19 rfl (by kernel_rfl) rfl rfl rfl rfl c48 (QOp.pure (Pure.ld cell2 rfl (RdL.old hv) (by first | exact ints_get (by omega) | exact bools_get (by omega) | exact strs_get (by omega) | exact vals_get (by first | omega | (simp; omega))))) ?_
            refine Any.takeY 20 rfl (by kernel_rfl) rfl rfl rfl rfl c48 (QOp.pure (Pure.eql rfl rfl)) ?_
            refine Any.take 21 rfl (by kernel_rfl) rfl (QOp.pure (Pure.pickF rfl c48 rfl)) ?_
            refine Any.done (by kernel_rfl) ?_
            refine Run.cond rfl (fun c62 => ?_) (fun c62 => ?_)
            · skip
              replace c62 := dT c62
              refine Run.seq ?_
              refine Run.region ?_
              refine Ops.pure rfl (Pure.assign rfl) ?_
              refine Ops.nil ?_
              refine Run.ret1 rfl rfl ?_
              rw [edsB_no (k := k) (by omega) (fun h => by obtain ⟨q1, q2, q3, q4⟩ := h; omega)]
            · skip
              replace c62 := dF c62
              refine Run.skip ?_
              refine Run.blk ?_
              refine Run.region ?_
              refine Ops.pure rfl (Pure.move rfl) ?_
              refine Ops.pure rfl (Pure.add rfl rfl (by omega) (by omega)) ?_
              refine Ops.pure rfl (Pure.assign rfl) ?_
              refine Ops.nil ?_
              refine Run.asrt ?_
              exact ⟨k + 1, ⟨⟨by omega, fun j hj => step_lt (p := fun j => EdOk l es j) hj hinv0.2 ⟨by omega, fun h0 => by omega, by omega, by omega⟩⟩, by omega⟩, ⟨rfl, rfl, rfl, trivial⟩, Ext.nil _⟩
      · skip
        replace c27 := Bool.eq_true_of_ne c27
        have c27' := nT c27
        refine Ops.guardN rfl rfl rfl rfl (by rw [c27]; decide) ?_
        refine Ops.guardN rfl rfl rfl rfl (by rw [c27]; decide) ?_
        refine Ops.guardU rfl rfl rfl rfl ?_
        refine Ops.guardU rfl rfl rfl rfl ?_
        refine Ops.guardU rfl rfl rfl rfl ?_
        refine Ops.guardU rfl rfl rfl rfl ?_
        refine Ops.guardU rfl rfl rfl rfl ?_
        refine Ops.guardU rfl rfl rfl rfl ?_
        refine Ops.guardU rfl rfl rfl rfl ?_
        refine Ops.guardU rfl rfl rfl rfl ?_
        refine Ops.guardN rfl rfl rfl rfl (by rw [c27]; decide) ?_
        refine Ops.pure rfl (Pure.pickT rfl c27 rfl) ?_
        refine Ops.nil ?_
        refine Run.condE rfl rfl ?_
        refine Run.seq ?_
        refine Run.region ?_
        refine Ops.pure rfl (Pure.assign rfl) ?_
        refine Ops.nil ?_
        refine Run.ret1 rfl rfl ?_
        rw [edsB_no (k := k) (by omega) (fun h => by obtain ⟨q1, q2, q3, q4⟩ := h; omega)]
    · skip
      replace c10 := dF c10
      refine Run.exit rfl ?_
      refine Run.seq ?_
      refine Run.region ?_
      refine Ops.pure rfl (Pure.assign rfl) ?_
      refine Ops.nil ?_
      refine Run.ret1 rfl rfl ?_
      rw [edsB_yes (by omega) hinv0.2]

set_option maxRecDepth 4000 in
/-- impl.ValidEdits -/
theorem f_i_ValidEdits (w : World) (a : Int) (b : Int) (v : Value) (l : List Int) (u : Value) (es : List (Int × Int)) (hv : Rd w v 1 l.length (ints l)) (hl : l.length ≤ 1073741824) (a0 : -9223372036854775808 ≤ a) (a1 : a ≤ 9223372036854775807) (b0 : -9223372036854775808 ≤ b) (b1 : b ≤ 9223372036854775807) (hu : Rd w u 2 es.length (edits es)) (he : es.length ≤ 2000000) : RetV Try.prog 47 [.agg #[.int .i64 a, .int .i64 b, v], u] w (.bool (decide (okP a b l = true ∧ edsB l es = true))) := by
  refine Ret.enter Try.func47 rfl Try.ntmps47 rfl ?_
  refine Run.seq ?_
  refine Run.region ?_
  refine Ops.go rfl (Loud.box rfl rfl) ?_
  rintro _ _ ⟨b2, rfl, rfl⟩
  refine Ops.pure rfl (Pure.assign rfl) ?_
  refine Ops.nil ?_
  refine Run.seq ?_
  refine Run.region ?_
  refine Ops.pure rfl (Pure.ldBA 0 rfl cell28 rfl rfl rfl) ?_
  refine Ops.q rfl (QOp.call fn100 rfl (fun w hw => f_i_ValidPanel w _ _ _ _ (by exact RdL.old (by assumption) w hw) (by assumption) (by assumption) (by assumption) (by assumption) (by assumption))) ?_
  refine Ops.pure rfl (Pure.move rfl) ?_
  refine Ops.guard rfl rfl rfl rfl (fun c7 => ?_) (fun c7 => ?_)
  · skip
    have c7' := c7
    refine Ops.pure rfl (Pure.ldBA 0 rfl cell28 rfl rfl rfl) ?_
    refine Ops.guardY rfl rfl rfl c7 ?_
    refine Ops.pure rfl (Pure.move rfl) ?_
    refine Ops.guardY rfl rfl rfl c7 ?_
    refine Ops.q rfl (QOp.call fn103 rfl (fun w hw => f_i_validEdits w _ _ _ _ _ _ (by exact RdL.old (by assumption) w hw) (by assumption) (by exact RdL.old (by assumption) w hw) (by assumption))) ?_
    refine Ops.pure rfl (Pure.pickT rfl c7 rfl) ?_
    refine Ops.pure rfl (Pure.assign rfl) ?_
    refine Ops.nil ?_
    refine Run.ret1 rfl rfl ?_
    first
      | rfl
      | (simp_all; done)
  · skip
    replace c7 := Bool.eq_false_of_ne c7
    have c7' := c7
    refine Ops.guardN rfl rfl rfl rfl (by rw [c7]; decide) ?_
    refine Ops.guardN rfl rfl rfl rfl (by rw [c7]; decide) ?_
    refine Ops.pure rfl (Pure.pickF rfl c7 rfl) ?_
    refine Ops.pure rfl (Pure.assign rfl) ?_
    refine Ops.nil ?_
    refine Run.ret1 rfl rfl ?_
    first
      | rfl
      | (simp_all; done)

set_option maxRecDepth 4000 in
/-- spec.ValidEdits -/
theorem f_s_ValidEdits (w : World) (a : Int) (b : Int) (v : Value) (l : List Int) (u : Value) (es : List (Int × Int)) (hv : Rd w v 1 l.length (ints l)) (hl : l.length ≤ 1073741824) (a0 : -9223372036854775808 ≤ a) (a1 : a ≤ 9223372036854775807) (b0 : -9223372036854775808 ≤ b) (b1 : b ≤ 9223372036854775807) (hu : Rd w u 2 es.length (edits es)) (he : es.length ≤ 2000000) : RetV Try.prog 46 [.agg #[.int .i64 a, .int .i64 b, v], u] w (.bool (decide (okP a b l = true ∧ edsB l es = true))) := by
  refine Ret.enter Try.func46 rfl Try.ntmps46 rfl ?_
  refine Run.seq ?_
  refine Run.region ?_
  refine Ops.go rfl (Loud.box rfl rfl) ?_
  rintro _ _ ⟨b2, rfl, rfl⟩
  refine Ops.pure rfl (Pure.assign rfl) ?_
  refine Ops.nil ?_
  refine Run.seq ?_
  refine Run.region ?_
  refine Ops.q rfl (QOp.call fn84 rfl (fun w hw => f_s_l02Ok w _ _ _ _ _ (by exact RdL.boxM 0 rfl rfl w hw) (by exact RdL.old (by assumption) w hw) (by assumption) (by assumption) (by assumption) (by assumption) (by assumption))) ?_
  refine Ops.pure rfl (Pure.move rfl) ?_
  refine Ops.guard rfl rfl rfl rfl (fun c6 => ?_) (fun c6 => ?_)
  · skip
    have c6' := c6
    refine Ops.pure rfl (Pure.move rfl) ?_
    refine Ops.guardY rfl rfl rfl c6 ?_
    refine Ops.q rfl (QOp.call fn102 rfl (fun w hw => f_s_l11List w _ _ _ _ _ _ _ (by exact RdL.boxM 0 rfl rfl w hw) (by exact RdL.old (by assumption) w hw) (by assumption) (by exact RdL.old (by assumption) w hw) (by assumption))) ?_
    refine Ops.pure rfl (Pure.pickT rfl c6 rfl) ?_
    refine Ops.pure rfl (Pure.assign rfl) ?_
    refine Ops.nil ?_
    refine Run.ret1 rfl rfl ?_
    first
      | rfl
      | (simp_all; done)
  · skip
    replace c6 := Bool.eq_false_of_ne c6
    have c6' := c6
    refine Ops.guardN rfl rfl rfl rfl (by rw [c6]; decide) ?_
    refine Ops.pure rfl (Pure.pickF rfl c6 rfl) ?_
    refine Ops.pure rfl (Pure.assign rfl) ?_
    refine Ops.nil ?_
    refine Run.ret1 rfl rfl ?_
    first
      | rfl
      | (simp_all; done)

set_option maxRecDepth 4000 in
/-- impl.clonePanel -/
theorem f_i_clonePanel (w : World) (a : Int) (b : Int) (v : Value) (l : List Int) (hv : Rd w v 1 l.length (ints l)) (hl : l.length ≤ 1073741824) : Ret Try.prog 108 [.agg #[.int .i64 a, .int .i64 b, v]] w (fun u L => ∃ x, x.oneCell' = true ∧ u = .agg #[.int .i64 a, .int .i64 b, x] ∧ L = [.row 2 1 x l.length (ints (l))]) := by
  have hv1 := hv.one
  have hv2 := one3 (a := a) (b := b) hv1
  refine Ret.enter Try.func108 rfl Try.ntmps108 rfl ?_
  refine Run.seq ?_
  refine Run.region ?_
  refine Ops.go rfl (Loud.box rfl rfl) ?_
  rintro _ _ ⟨b1, rfl, rfl⟩
  refine Ops.go rfl (Loud.alloc zero28 rfl) ?_
  rintro _ _ ⟨b2, rfl, rfl⟩
  refine Ops.nil ?_
  refine Run.seq ?_
  refine Run.region ?_
  refine Ops.pure rfl (Pure.fieldAddrB fld28_2 rfl) ?_
  refine Ops.pure rfl (Pure.ldB 1 rfl cell22 rfl rfl) ?_
  refine Ops.go rfl (Loud.callR fn152 rfl (fun w hw => f_slices_Clone_int64_int64 w _ _ (by exact RdL.old (by assumption) w hw) (by assumption))) ?_
  rintro v5 _ ⟨L5, hQ5, rfl⟩
  subst hQ5
  refine Ops.have_ (fun w hw => row_one 0 hw rfl) (fun h5 => ?_)
  refine Ops.pure rfl (Pure.fieldAddrB fld28_2 rfl) ?_
  refine Ops.store (Stores.box1 2 rfl rfl rfl size22 (by assumption) rfl) ?_
  refine Ops.nil ?_
  refine Run.seq ?_
  refine Run.region ?_
  refine Ops.pure rfl (Pure.ldBA 2 rfl cell28 rfl rfl rfl) ?_
  refine Ops.store (Stores.box 1 rfl rfl rfl size28 (one3 h5) rfl rfl) ?_
  refine Ops.nil ?_
  refine Run.retCx 1 rfl rfl rfl cell28 rfl (Ext.take 0 rfl (Ext.nil _)) ?_
  exact ⟨v5, h5, rfl, rfl⟩

set_option maxRecDepth 4000 in
/-- spec.l02Own -/
theorem f_s_l02Own (w : World) (p : Nat) (a : Int) (b : Int) (v : Value) (l : List Int) (hp : Rd w (boxS p) 3 1 [.int .i64 a, .int .i64 b, v]) (hv : Rd w v 1 l.length (ints l)) (hl : l.length ≤ 1073741824) : Ret Try.prog 112 [.pointer (some ⟨p, 0, none⟩)] w (fun u L => ∃ x, x.oneCell' = true ∧ u = .agg #[.int .i64 a, .int .i64 b, x] ∧ L = [.row 2 1 x l.length (ints (l))]) := by
  refine Ret.enter Try.func112 rfl Try.ntmps112 rfl ?_
  refine Run.seq ?_
  refine Run.region ?_
  refine Ops.go rfl (Loud.alloc zero28 rfl) ?_
  rintro _ _ ⟨b2, rfl, rfl⟩
  refine Ops.nil ?_
  refine Run.seq ?_
  refine Any.start follows ?_
  refine Any.take 0 rfl (by kernel_rfl) rfl (QOp.pure (Pure.move rfl)) ?_
  refine Any.take 1 rfl (by kernel_rfl) rfl (QOp.pure (Pure.nilchk rfl)) ?_
  refine Any.take 2 rfl (by kernel_rfl) rfl (QOp.pure (Pure.fieldAddrB fld28_0 rfl)) ?_
  refine Any.take 3 rfl (by kernel_rfl) rfl (QOp.pure (Pure.ldP cell2 rfl (RdL.old hp) rfl)) ?_
  refine Any.take 4 rfl (by kernel_rfl) rfl (QOp.pure (Pure.move rfl)) ?_
  refine Any.take 5 rfl (by kernel_rfl) rfl (QOp.pure (Pure.nilchk rfl)) ?_
  refine Any.take 6 rfl (by kernel_rfl) rfl (QOp.pure (Pure.fieldAddrB fld28_1 rfl)) ?_
  refine Any.take 7 rfl (by kernel_rfl) rfl (QOp.pure (Pure.ldP cell2 rfl (RdL.old hp) rfl)) ?_
  refine Any.take 8 rfl (by kernel_rfl) rfl (QOp.pure (Pure.move rfl)) ?_
  refine Any.take 9 rfl (by kernel_rfl) rfl (QOp.pure (Pure.nilchk rfl)) ?_
  refine Any.take 10 rfl (by kernel_rfl) rfl (QOp.pure (Pure.fieldAddrB fld28_2 rfl)) ?_
  refine Any.take 11 rfl (by kernel_rfl) rfl (QOp.pure (Pure.ldP cell22 rfl (RdL.old hp) rfl)) ?_
  refine Any.one 12 (by kernel_rfl) ?_
  refine OneL.loud rfl rfl (Loud.callR fn155 rfl (fun w hw => f_s_l00Own w _ _ (by exact RdL.old (by assumption) w hw) (by assumption))) ?_
  rintro v15 _ ⟨L15, hQ15, rfl⟩
  subst hQ15
  refine ⟨.inr (by first | exact Ext.right _ _ | exact Ext.right [_] _ | exact Ext.refl _), ?_⟩
  refine Any.take 13 rfl (by kernel_rfl) rfl (QOp.pure (Pure.have_ (fun w hw => row_one 0 hw rfl) (fun h15 => Pure.build rfl (bld28_3 _ _ _ rfl rfl h15)))) ?_
  refine Any.one 14 (by kernel_rfl) ?_
  refine OneL.store (L' := [.row 2 1 v15 l.length (ints l), .box b2 28 [.int .i64 a, .int .i64 b, v15]]) rfl ?_ (by kernel_rfl) ?_
  · exact Stores.have_ (fun w hw => row_one 0 hw rfl) (fun h15 => Stores.box 1 rfl rfl rfl size28 (one3 h15) rfl rfl)
  refine Any.done (by kernel_rfl) ?_
  refine Run.have_ (fun w hw => row_one 0 hw rfl) (fun h15 => ?_)
  refine Run.retCx 1 rfl rfl rfl cell28 rfl (Ext.take 0 rfl (Ext.nil _)) ?_
  exact ⟨v15, h15, rfl, rfl⟩

set_option maxRecDepth 4000 in
/-- (impl.Panel).edited -/
theorem f_i_Panel_edited (w : World) (a : Int) (b : Int) (v : Value) (l : List Int) (u : Value) (es : List (Int × Int)) (hv : Rd w v 1 l.length (ints l)) (hl : l.length ≤ 1073741824) (hu : Rd w u 2 es.length (edits es)) (he : es.length ≤ 2000000) (hok : edsB l es = true) : Ret Try.prog 98 [.agg #[.int .i64 a, .int .i64 b, v], u] w (fun u L => ∃ x, x.oneCell' = true ∧ u = .agg #[.int .i64 a, .int .i64 b, x] ∧ L = [.row 2 1 x l.length (ints (appE l es))]) := by
  refine Ret.enter Try.func98 rfl Try.ntmps98 rfl ?_
  refine Run.seq ?_
  refine Run.region ?_
  refine Ops.go rfl (Loud.box rfl rfl) ?_
  rintro _ _ ⟨b2, rfl, rfl⟩
  refine Ops.go rfl (Loud.alloc zero28 rfl) ?_
  rintro _ _ ⟨b4, rfl, rfl⟩
  refine Ops.nil ?_
  refine Run.seq ?_
  refine Run.region ?_
  refine Ops.pure rfl (Pure.ldBA 1 rfl cell28 rfl rfl rfl) ?_
  refine Ops.go rfl (Loud.callR fn108 rfl (fun w hw => f_i_clonePanel w _ _ _ _ (by exact RdL.old (by assumption) w hw) (by assumption))) ?_
  rintro v9 _ ⟨L9, hQ9, rfl⟩
  obtain ⟨x9, h9, rfl, rfl⟩ := hQ9
  refine Ops.go rfl (Loud.alloc zero28 rfl) ?_
  rintro _ _ ⟨b5, rfl, rfl⟩
  refine Ops.store (Stores.box 0 rfl rfl rfl size28 (one3 h9) rfl rfl) ?_
  refine Ops.nil ?_
  refine Run.seq ?_
  refine Run.seq ?_
  refine Run.region ?_
  refine Ops.pure rfl (Pure.move rfl) ?_
  refine Ops.pure rfl (Pure.len sl41 (RdL.old hu) rfl) ?_
  refine Ops.pure rfl (Pure.move rfl) ?_
  refine Ops.nil ?_
  refine Run.block ?_
  refine Run.loop (X := Nat) (fun k => [(4, .pointer (some ⟨b4, 0, none⟩)), (5, .pointer (some ⟨b5, 0, none⟩)), (10, u), (11, .int .i64 es.length), (12, .int .i64 k)]) (fun k => [.box b5 28 [.int .i64 a, .int .i64 b, x9], .row 2 1 x9 l.length (ints (appE l (es.take k))), .box b4 28 [.int .i64 0, .int .i64 0, .slice none 0 0]]) (fun k => k ≤ es.length) (fun k => es.length - k) 0 ?_ ?_ ?_ ?_
  · exact Nat.zero_le _
  · exact ⟨rfl, rfl, rfl, rfl, rfl, trivial⟩
  · exact ⟨[_], List.Perm.refl _⟩
  · intro k hinv0
    have hok2 := fun (h : k < es.length) => edsB_at hok hl h
    have hla : (ints (appE l (es.take k))).length = l.length := by rw [ints, List.length_map, length_appE]
    refine Run.seq ?_
    refine Run.region ?_
    refine Ops.pure rfl (Pure.lss rfl rfl) ?_
    refine Ops.nil ?_
    refine Run.seq ?_
    refine Run.cond rfl (fun c13 => ?_) (fun c13 => ?_)
    · skip
      replace c13 := dT c13
      refine Run.skip ?_
      refine Run.seq ?_
      refine Run.block ?_
      refine Run.seq ?_
      have hq := hok2 (by omega)
      refine Run.region ?_
      refine Ops.pure rfl (Pure.idxN sl41 (RdL.old hu) rfl rfl (by first | assumption | omega | (simp; omega))) ?_
      refine Ops.pure rfl (Pure.ldA cell74 rfl (RdL.old hu) (seg_get encE_len (by omega) (0, 0)) rfl (by decide)) ?_
      refine Ops.go rfl (Loud.alloc zero74 rfl) ?_
      rintro _ _ ⟨b7, rfl, rfl⟩
      refine Ops.store (Stores.box 0 rfl rfl rfl size74 (allOne rfl) rfl rfl) ?_
      refine Ops.nil ?_
      refine Run.region ?_
      refine Ops.pure rfl (Pure.fieldAddrB fld28_2 rfl) ?_
      refine Ops.pure rfl (Pure.ldB 1 rfl cell22 rfl rfl) ?_
      refine Ops.pure rfl (Pure.fieldAddrB fld74_0 rfl) ?_
      refine Ops.pure rfl (Pure.ldB 0 rfl cell2 rfl rfl) ?_
      refine Ops.pure rfl (Pure.fieldAddrB fld74_1 rfl) ?_
      refine Ops.pure rfl (Pure.ldB 0 rfl cell2 rfl rfl) ?_
      refine Ops.pure rfl (Pure.idx1 sl22 (RdL.own 2 rfl) rfl rfl (by first | assumption | omega | (simp; omega)) (by first | assumption | omega | (simp; omega))) ?_
      refine Ops.store (Stores.row1 2 rfl size2 rfl rfl rfl (by first | assumption | omega | (simp; omega))) ?_
      refine Ops.nil ?_
      refine Run.blk ?_
      refine Run.region ?_
      refine Ops.pure rfl (Pure.add rfl rfl (by omega) (by omega)) ?_
      refine Ops.pure rfl (Pure.move rfl) ?_
      refine Ops.nil ?_
      refine Run.asrt ?_
      refine ⟨k + 1, ⟨by omega, by omega⟩, ⟨rfl, rfl, rfl, rfl, rfl, trivial⟩, Ext.trans (Ext.eq ?_) (Ext.right [_] _)⟩
      rw [appE_succ (by omega), ints, ints, List.map_set]
      try rfl
    · skip
      replace c13 := dF c13
      refine Run.exit rfl ?_
      refine Run.seq ?_
      refine Run.region ?_
      refine Ops.pure rfl (Pure.ldBA 0 rfl cell28 rfl rfl rfl) ?_
      refine Ops.store (Stores.box 2 rfl rfl rfl size28 (one3 h9) rfl rfl) ?_
      refine Ops.nil ?_
      refine Run.retCx 2 rfl rfl rfl cell28 rfl (Ext.take 1 rfl (Ext.nil _)) ?_
      have e : k = es.length := by omega
      subst e
      exact ⟨_, by assumption, rfl, by rw [List.take_length]⟩

set_option maxRecDepth 4000 in
/-- spec.l11Apply -/
theorem f_s_l11Apply (w : World) (p : Nat) (a : Int) (b : Int) (v : Value) (l : List Int) (u : Value) (es : List (Int × Int)) (hp : Rd w (boxS p) 3 1 [.int .i64 a, .int .i64 b, v]) (hv : Rd w v 1 l.length (ints l)) (hl : l.length ≤ 1073741824) (hu : Rd w u 2 es.length (edits es)) (he : es.length ≤ 2000000) (hok : edsB l es = true) : Ret Try.prog 86 [.pointer (some ⟨p, 0, none⟩), u] w (fun u L => ∃ x, x.oneCell' = true ∧ u = .agg #[.int .i64 a, .int .i64 b, x] ∧ L = [.row 2 1 x l.length (ints (appE l es))]) := by
  refine Ret.enter Try.func86 rfl Try.ntmps86 rfl ?_
  refine Run.seq ?_
  refine Run.region ?_
  refine Ops.go rfl (Loud.alloc zero28 rfl) ?_
  rintro _ _ ⟨b4, rfl, rfl⟩
  refine Ops.nil ?_
  refine Run.seq ?_
  refine Run.region ?_
  refine Ops.pure rfl (Pure.move rfl) ?_
  refine Ops.go rfl (Loud.callR fn112 rfl (fun w hw => f_s_l02Own w _ _ _ _ _ (by exact RdL.old (by assumption) w hw) (by exact RdL.old (by assumption) w hw) (by assumption))) ?_
  rintro v8 _ ⟨L8, hQ8, rfl⟩
  obtain ⟨x8, h8, rfl, rfl⟩ := hQ8
  refine Ops.go rfl (Loud.alloc zero28 rfl) ?_
  rintro _ _ ⟨b5, rfl, rfl⟩
  refine Ops.store (Stores.box 0 rfl rfl rfl size28 (one3 h8) rfl rfl) ?_
  refine Ops.nil ?_
  refine Run.seq ?_
  refine Run.seq ?_
  refine Run.region ?_
  refine Ops.pure rfl (Pure.assign rfl) ?_
  refine Ops.nil ?_
  refine Run.block ?_
  refine Run.loop (X := Nat) (fun k => [(1, u), (4, .pointer (some ⟨b4, 0, none⟩)), (5, .pointer (some ⟨b5, 0, none⟩)), (6, .int .i64 k)]) (fun k => [.box b5 28 [.int .i64 a, .int .i64 b, x8], .row 2 1 x8 l.length (ints (appE l (es.take k))), .box b4 28 [.int .i64 0, .int .i64 0, .slice none 0 0]]) (fun k => k ≤ es.length) (fun k => es.length - k) 0 ?_ ?_ ?_ ?_
  · exact Nat.zero_le _
  · exact ⟨rfl, rfl, rfl, rfl, trivial⟩
  · exact Ext.refl _
  · intro k hinv0
    have hok2 := fun (h : k < es.length) => edsB_at hok hl h
    have hla : (ints (appE l (es.take k))).length = l.length := by rw [ints, List.length_map, length_appE]
    refine Run.seq ?_
    refine Run.seq ?_
    refine Run.region ?_
    refine Ops.pure rfl (Pure.move rfl) ?_
    refine Ops.pure rfl (Pure.move rfl) ?_
    refine Ops.pure rfl (Pure.len sl41 (RdL.old hu) rfl) ?_
    refine Ops.pure rfl (Pure.lss rfl rfl) ?_
    refine Ops.nil ?_
    refine Run.cond rfl (fun c12 => ?_) (fun c12 => ?_)
    · skip
      replace c12 := dT c12
      refine Run.skip ?_
      refine Run.seq ?_
      refine Run.block ?_
      have hq := hok2 (by omega)
      refine Any.start follows ?_
      refine Any.take 0 rfl (by kernel_rfl) rfl (QOp.pure (Pure.fieldAddrB fld28_2 rfl)) ?_
      refine Any.take 1 rfl (by kernel_rfl) rfl (QOp.pure (Pure.ldB 0 rfl cell22 rfl rfl)) ?_
      refine Any.take 2 rfl (by kernel_rfl) rfl (QOp.pure (Pure.move rfl)) ?_
      refine Any.take 3 rfl (by kernel_rfl) rfl (QOp.pure (Pure.move rfl)) ?_
      refine Any.take 4 rfl (by kernel_rfl) rfl (QOp.pure (Pure.idxN sl41 (RdL.old hu) rfl rfl (by first | assumption | omega | (simp; omega)))) ?_
      refine Any.take 5 rfl (by kernel_rfl) rfl (QOp.pure (Pure.fieldAddr fld74_0 rfl (RdL.old hu) (by first | omega | (simp; omega)))) ?_
      refine Any.take 6 rfl (by kernel_rfl) rfl (QOp.pure (Pure.ld cell2 rfl (RdL.old hu) (fget encE_len (by omega) (0, 0) rfl))) ?_
      refine Any.take 7 rfl (by kernel_rfl) rfl (QOp.pure (Pure.move rfl)) ?_
      refine Any.take 8 rfl (by kernel_rfl) rfl (QOp.pure (Pure.move rfl)) ?_
      refine Any.take 9 rfl (by kernel_rfl) rfl (QOp.pure (Pure.idxN sl41 (RdL.old hu) rfl rfl (by first | assumption | omega | (simp; omega)))) ?_
      refine Any.take 10 rfl (by kernel_rfl) rfl (QOp.pure (Pure.fieldAddr fld74_1 rfl (RdL.old hu) (by first | omega | (simp; omega)))) ?_
      refine Any.take 11 rfl (by kernel_rfl) rfl (QOp.pure (Pure.ld cell2 rfl (RdL.old hu) (fget encE_len (by omega) (0, 0) rfl))) ?_
      refine Any.take 12 rfl (by kernel_rfl) rfl (QOp.pure (Pure.idx1 sl22 (RdL.own 1 rfl) rfl rfl (by first | assumption | omega | (simp; omega)) (by first | assumption | omega | (simp; omega)))) ?_
      refine Any.one 13 (by kernel_rfl) ?_
      refine OneL.store rfl (Stores.row1 1 rfl size2 rfl rfl rfl (by first | assumption | omega | (simp; omega))) (by kernel_rfl) ?_
      refine Any.done (by kernel_rfl) ?_
      refine Run.blk ?_
      refine Run.region ?_
      refine Ops.pure rfl (Pure.move rfl) ?_
      refine Ops.pure rfl (Pure.add rfl rfl (by omega) (by omega)) ?_
      refine Ops.pure rfl (Pure.assign rfl) ?_
      refine Ops.nil ?_
      refine Run.asrt ?_
      refine ⟨k + 1, ⟨by omega, by omega⟩, ⟨rfl, rfl, rfl, rfl, trivial⟩, Ext.eq ?_⟩
      rw [appE_succ (by omega), ints, ints, List.map_set]
      try rfl
    · skip
      replace c12 := dF c12
      refine Run.exit rfl ?_
      refine Run.seq ?_
      refine Run.region ?_
      refine Ops.pure rfl (Pure.ldBA 0 rfl cell28 rfl rfl rfl) ?_
      refine Ops.store (Stores.box 2 rfl rfl rfl size28 (one3 h8) rfl rfl) ?_
      refine Ops.nil ?_
      refine Run.retCx 2 rfl rfl rfl cell28 rfl (Ext.take 1 rfl (Ext.nil _)) ?_
      have e : k = es.length := by omega
      subst e
      exact ⟨_, by assumption, rfl, by rw [List.take_length]⟩

end Go.Proofs.Ytkplanpcmkbfiaa
