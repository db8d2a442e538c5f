/- Contracts of functions, printed by program from annotations. -/
import Derived.Test.YtmfinopdokkjcaaEdM
import Derived.Test.YtmfinopdokkjcaaText
namespace Go.Proofs.Ytmfinopdokkjcaa
open Go Go.AW Go.RowKit
set_option linter.unusedVariables false
set_option linter.unusedSimpArgs false

def veE (a b : Int) (l : List Int) (es : List (Int × Int)) : Int := if okP a b l = true ∧ edsB l es = true then 0 else 1
theorem veE_ok {a b : Int} {l : List Int} {es : List (Int × Int)} (h : okP a b l = true ∧ edsB l es = true) : veE a b l es = 0 := by unfold veE; rw [if_pos h]
theorem veE_bad {a b : Int} {l : List Int} {es : List (Int × Int)} (h : ¬ (okP a b l = true ∧ edsB l es = true)) : veE a b l es = 1 := by unfold veE; rw [if_neg h]
def zif (c x : Int) : Int := if c = 0 then x else 0
theorem zif_yes (x : Int) : zif 0 x = x := rfl
theorem zif_no (x : Int) : zif 1 x = 0 := rfl
def lif {α : Type} (c : Int) (l : List α) : List α := if c = 0 then l else []
theorem lif_yes {α : Type} (l : List α) : lif 0 l = l := rfl
theorem lif_no {α : Type} (l : List α) : lif 1 l = [] := rfl
theorem lif_size {α : Type} (c : Int) (l : List α) : (lif c l).length ≤ l.length := by unfold lif; split; exact Nat.le_refl _; exact Nat.zero_le _
def beE (a b : Int) (l : List Int) (a' b' : Int) (l' : List Int) : Int := if okP a b l = true ∧ okP a' b' l' = true then (if a = a' ∧ b = b' then 0 else 6) else 1
def beL (a b : Int) (l : List Int) (a' b' : Int) (l' : List Int) : List (Int × Int) := lif (beE a b l a' b' l') (betw l l' l.length)
theorem be_bad {a b a' b' : Int} {l l' : List Int} (h : ¬ (okP a b l = true ∧ okP a' b' l' = true)) : beE a b l a' b' l' = 1 ∧ beL a b l a' b' l' = [] := by
  have h1 : beE a b l a' b' l' = 1 := by unfold beE; rw [if_neg h]
  refine ⟨h1, ?_⟩
  unfold beL
  rw [h1]
  rfl
theorem be_other {a b a' b' : Int} {l l' : List Int} (h : okP a b l = true ∧ okP a' b' l' = true) (hn : ¬ (a = a' ∧ b = b')) : beE a b l a' b' l' = 6 ∧ beL a b l a' b' l' = [] := by
  have h1 : beE a b l a' b' l' = 6 := by unfold beE; rw [if_pos h, if_neg hn]
  refine ⟨h1, ?_⟩
  unfold beL
  rw [h1]
  rfl
theorem be_ok {a b a' b' : Int} {l l' : List Int} (h : okP a b l = true ∧ okP a' b' l' = true) (hn : a = a' ∧ b = b') : beE a b l a' b' l' = 0 ∧ beL a b l a' b' l' = betw l l' l.length ∧ l.length = l'.length := by
  have h1 : beE a b l a' b' l' = 0 := by unfold beE; rw [if_pos h, if_pos hn]
  have h2 := (okP_spec h.1).2.1
  have h3 := (okP_spec h.2).2.1
  refine ⟨h1, ?_, by rw [h2, h3, hn.1, hn.2]⟩
  unfold beL
  rw [h1]
  rfl
theorem okP_len {a b : Int} {l : List Int} (h : okP a b l = true) : l.length ≤ 112 := by
  have h1 := (okP_spec h).2.1
  have h2 := inn_eq (okP_spec h).1
  omega
def partE (e : Int × Int) : ByteArray := (decB e.1 ++ strOf [61]) ++ decB e.2
theorem edsB_at {l : List Int} {es : List (Int × Int)} (h : edsB l es = true) (hl : l.length ≤ 1073741824) {k : Nat} (hk : k < es.length) : 0 ≤ (es.getD k (0, 0)).1 ∧ (es.getD k (0, 0)).1 < l.length ∧ 0 ≤ (es.getD k (0, 0)).2 ∧ (es.getD k (0, 0)).2 ≤ 2 := by
  obtain ⟨q1, q2, q3, q4⟩ := edsB_spec h k hk
  omega
theorem partE_size {e : Int × Int} (h : 0 ≤ e.1 ∧ e.1 ≤ 1073741824 ∧ 0 ≤ e.2 ∧ e.2 ≤ 2) : (partE e).size ≤ 41 := by
  have h1 := decB_size (n := e.1) (by omega) (by omega)
  have h2 := decB_size (n := e.2) (by omega) (by omega)
  unfold partE
  rw [ByteArray.size_append, ByteArray.size_append, size_strOf]
  simp only [List.length_cons, List.length_nil]
  omega
def edT (es : List (Int × Int)) : ByteArray := joinAll (strOf [32]) (es.map partE)
def etT (a b : Int) (l : List Int) (es : List (Int × Int)) : ByteArray := if veE a b l es = 0 then edT es else ByteArray.empty
theorem etT_ok {a b : Int} {l : List Int} {es : List (Int × Int)} (h : veE a b l es = 0) : etT a b l es = edT es := by unfold etT; rw [if_pos h]
theorem etT_bad {a b : Int} {l : List Int} {es : List (Int × Int)} (h : veE a b l es = 1) : etT a b l es = ByteArray.empty := by unfold etT; rw [if_neg (by rw [h]; decide)]

set_option maxRecDepth 4000 in
/-- impl.hasIndex -/
theorem f_i_hasIndex (w : World) (k : Int) (n : Int) (hn : 0 ≤ n ∧ n ≤ 9223372036854775807) : RetV Try.prog 168 [.int .i64 k, .int .i64 n] w (.bool (decide (0 ≤ k ∧ k ≤ n - 1))) := by
  refine Ret.enter Try.func168 rfl Try.ntmps168 rfl ?_
  refine Run.seq ?_
  refine Run.region ?_
  refine Ops.pure rfl (Pure.assign rfl) ?_
  refine Ops.nil ?_
  refine Run.seq ?_
  refine Run.region ?_
  refine Ops.pure rfl (Pure.move rfl) ?_
  refine Ops.pure rfl (Pure.move rfl) ?_
  refine Ops.pure rfl (Pure.sub rfl rfl (by omega) (by omega)) ?_
  refine Ops.q rfl (QOp.call fn93 rfl (fun w hw => f_i_inRange w _ _ _)) ?_
  refine Ops.pure rfl (Pure.assign rfl) ?_
  refine Ops.nil ?_
  refine Run.ret1 rfl rfl ?_
  rfl

set_option maxRecDepth 4000 in
/-- impl.clonePanel -/
theorem f_i_clonePanel (w : World) (a : Int) (b : Int) (v : Value) (l : List Int) (hv : Rd w v 1 l.length (ints l)) (hl : l.length ≤ 1073741824) : Ret Try.prog 152 [.agg #[.int .i64 a, .int .i64 b, v]] w (fun u L => ∃ x, x.oneCell' = true ∧ u = .agg #[.int .i64 a, .int .i64 b, x] ∧ L = [.row 2 1 x l.length (ints (l))]) := by
  have hv1 := hv.one
  have hv2 := one3 (a := a) (b := b) hv1
  refine Ret.enter Try.func152 rfl Try.ntmps152 rfl ?_
  refine Run.seq ?_
  refine Run.region ?_
  refine Ops.go rfl (Loud.box rfl rfl) ?_
  rintro _ _ ⟨b1, rfl, rfl⟩
  refine Ops.go rfl (Loud.alloc zero35 rfl) ?_
  rintro _ _ ⟨b2, rfl, rfl⟩
  refine Ops.nil ?_
  refine Run.seq ?_
  refine Run.region ?_
  refine Ops.pure rfl (Pure.fieldAddrB fld35_2 rfl) ?_
  refine Ops.pure rfl (Pure.ldB 1 rfl cell32 rfl rfl) ?_
  refine Ops.go rfl (Loud.callR fn166 rfl (fun w hw => f_slices_Clone_int64_int64 w _ _ (by exact RdL.old (by assumption) w hw) (by assumption))) ?_
  rintro v5 _ ⟨L5, hQ5, rfl⟩
  subst hQ5
  refine Ops.have_ (fun w hw => row_one 0 hw rfl) (fun h5 => ?_)
  refine Ops.pure rfl (Pure.fieldAddrB fld35_2 rfl) ?_
  refine Ops.store (Stores.box1 2 rfl rfl rfl size32 (by assumption) rfl) ?_
  refine Ops.nil ?_
  refine Run.seq ?_
  refine Run.region ?_
  refine Ops.pure rfl (Pure.ldBA 2 rfl cell35 rfl rfl rfl) ?_
  refine Ops.store (Stores.box 1 rfl rfl rfl size35 (one3 h5) rfl rfl) ?_
  refine Ops.nil ?_
  refine Run.retCx 1 rfl rfl rfl cell35 rfl (Ext.take 0 rfl (Ext.nil _)) ?_
  exact ⟨v5, h5, rfl, rfl⟩

set_option maxRecDepth 4000 in
/-- spec.l02Own -/
theorem f_s_l02Own (w : World) (p : Nat) (a : Int) (b : Int) (v : Value) (l : List Int) (hp : Rd w (boxS p) 3 1 [.int .i64 a, .int .i64 b, v]) (hv : Rd w v 1 l.length (ints l)) (hl : l.length ≤ 1073741824) : Ret Try.prog 136 [.pointer (some ⟨p, 0, none⟩)] w (fun u L => ∃ x, x.oneCell' = true ∧ u = .agg #[.int .i64 a, .int .i64 b, x] ∧ L = [.row 2 1 x l.length (ints (l))]) := by
  refine Ret.enter Try.func136 rfl Try.ntmps136 rfl ?_
  refine Run.seq ?_
  refine Run.region ?_
  refine Ops.go rfl (Loud.alloc zero35 rfl) ?_
  rintro _ _ ⟨b2, rfl, rfl⟩
  refine Ops.nil ?_
  refine Run.seq ?_
  refine Any.start follows ?_
  refine Any.take 0 rfl (by kernel_rfl) rfl (QOp.pure (Pure.move rfl)) ?_
  refine Any.take 1 rfl (by kernel_rfl) rfl (QOp.pure (Pure.nilchk rfl)) ?_
  refine Any.take 2 rfl (by kernel_rfl) rfl (QOp.pure (Pure.fieldAddrB fld35_0 rfl)) ?_
  refine Any.take 3 rfl (by kernel_rfl) rfl (QOp.pure (Pure.ldP cell2 rfl (RdL.old hp) rfl)) ?_
  refine Any.take 4 rfl (by kernel_rfl) rfl (QOp.pure (Pure.move rfl)) ?_
  refine Any.take 5 rfl (by kernel_rfl) rfl (QOp.pure (Pure.nilchk rfl)) ?_
  refine Any.take 6 rfl (by kernel_rfl) rfl (QOp.pure (Pure.fieldAddrB fld35_1 rfl)) ?_
  refine Any.take 7 rfl (by kernel_rfl) rfl (QOp.pure (Pure.ldP cell2 rfl (RdL.old hp) rfl)) ?_
  refine Any.take 8 rfl (by kernel_rfl) rfl (QOp.pure (Pure.move rfl)) ?_
  refine Any.take 9 rfl (by kernel_rfl) rfl (QOp.pure (Pure.nilchk rfl)) ?_
  refine Any.take 10 rfl (by kernel_rfl) rfl (QOp.pure (Pure.fieldAddrB fld35_2 rfl)) ?_
  refine Any.take 11 rfl (by kernel_rfl) rfl (QOp.pure (Pure.ldP cell32 rfl (RdL.old hp) rfl)) ?_
  refine Any.one 12 (by kernel_rfl) ?_
  refine OneL.loud rfl rfl (Loud.callR fn196 rfl (fun w hw => f_s_l00Own w _ _ (by exact RdL.old (by assumption) w hw) (by assumption))) ?_
  rintro v15 _ ⟨L15, hQ15, rfl⟩
  subst hQ15
  refine ⟨.inr (by first | exact Ext.right _ _ | exact Ext.right [_] _ | exact Ext.refl _), ?_⟩
  refine Any.take 13 rfl (by kernel_rfl) rfl (QOp.pure (Pure.have_ (fun w hw => row_one 0 hw rfl) (fun h15 => Pure.build rfl (bld35_3 _ _ _ rfl rfl h15)))) ?_
  refine Any.one 14 (by kernel_rfl) ?_
  refine OneL.store (L' := [.row 2 1 v15 l.length (ints l), .box b2 35 [.int .i64 a, .int .i64 b, v15]]) rfl ?_ (by kernel_rfl) ?_
  · exact Stores.have_ (fun w hw => row_one 0 hw rfl) (fun h15 => Stores.box 1 rfl rfl rfl size35 (one3 h15) rfl rfl)
  refine Any.done (by kernel_rfl) ?_
  refine Run.have_ (fun w hw => row_one 0 hw rfl) (fun h15 => ?_)
  refine Run.retCx 1 rfl rfl rfl cell35 rfl (Ext.take 0 rfl (Ext.nil _)) ?_
  exact ⟨v15, h15, rfl, rfl⟩

end Go.Proofs.Ytmfinopdokkjcaa
