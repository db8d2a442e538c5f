/- Contracts of functions, printed by program from annotations. -/
import Derived.Test.YtmfinopdokkjcaaPanel
import Derived.Test.YtmfinopdokkjcaaTrc3
import Derived.Test.YtmfinopdokkjcaaPtsM
namespace Go.Proofs.Ytmfinopdokkjcaa
open Go Go.AW Go.RowKit
set_option linter.unusedVariables false
set_option linter.unusedSimpArgs false

set_option maxRecDepth 4000 in
/-- spec.l02Same -/
theorem f_s_l02Same (w : World) (p : Nat) (p' : Nat) (a : Int) (b : Int) (v : Value) (l : List Int) (a' : Int) (b' : Int) (v' : Value) (l' : List Int) (hp : Rd w (boxS p) 3 1 [.int .i64 a, .int .i64 b, v]) (hp' : Rd w (boxS p') 3 1 [.int .i64 a', .int .i64 b', v']) (hv : Rd w v 1 l.length (ints l)) (hv' : Rd w v' 1 l'.length (ints l')) (hl : l.length ≤ 1073741824) (hl' : l'.length ≤ 1073741824) : RetV Try.prog 123 [.pointer (some ⟨p, 0, none⟩), .pointer (some ⟨p', 0, none⟩)] w (.bool (decide (a = a' ∧ b = b' ∧ l = l'))) := by
  refine Ret.enter Try.func123 rfl Try.ntmps123 rfl ?_
  refine Run.seq ?_
  refine Run.region ?_
  refine Ops.pure rfl (Pure.assign rfl) ?_
  refine Ops.nil ?_
  refine Run.seq ?_
  refine Any.start follows ?_
  refine Any.take 0 rfl (by kernel_rfl) rfl (QOp.pure (Pure.move rfl)) ?_
  refine Any.take 1 rfl (by kernel_rfl) rfl (QOp.pure (Pure.nilchk rfl)) ?_
  refine Any.take 2 rfl (by kernel_rfl) rfl (QOp.pure (Pure.fieldAddrB fld35_0 rfl)) ?_
  refine Any.take 3 rfl (by kernel_rfl) rfl (QOp.pure (Pure.ldP cell2 rfl (RdL.old hp) rfl)) ?_
  refine Any.take 4 rfl (by kernel_rfl) rfl (QOp.pure (Pure.move rfl)) ?_
  refine Any.take 5 rfl (by kernel_rfl) rfl (QOp.pure (Pure.nilchk rfl)) ?_
  refine Any.take 6 rfl (by kernel_rfl) rfl (QOp.pure (Pure.fieldAddrB fld35_0 rfl)) ?_
  refine Any.take 7 rfl (by kernel_rfl) rfl (QOp.pure (Pure.ldP cell2 rfl (RdL.old hp') rfl)) ?_
  refine Any.take 8 rfl (by kernel_rfl) rfl (QOp.pure (Pure.eql rfl rfl)) ?_
  refine Any.take 9 rfl (by kernel_rfl) rfl (QOp.pure (Pure.move rfl)) ?_
  refine Any.splitG 14 rfl (fun c14 => ?_) (fun c14 => ?_)
  · skip
    have c14' := dT c14
    refine Any.takeY 10 rfl (by kernel_rfl) rfl rfl rfl rfl c14 (QOp.pure (Pure.move rfl)) ?_
    refine Any.takeY 11 rfl (by kernel_rfl) rfl rfl rfl rfl c14 (QOp.pure (Pure.nilchk rfl)) ?_
    refine Any.takeY 12 rfl (by kernel_rfl) rfl rfl rfl rfl c14 (QOp.pure (Pure.fieldAddrB fld35_1 rfl)) ?_
    refine Any.takeY 13 rfl (by kernel_rfl) rfl rfl rfl rfl c14 (QOp.pure (Pure.ldP cell2 rfl (RdL.old hp) rfl)) ?_
    refine Any.takeY 14 rfl (by kernel_rfl) rfl rfl rfl rfl c14 (QOp.pure (Pure.move rfl)) ?_
    refine Any.takeY 15 rfl (by kernel_rfl) rfl rfl rfl rfl c14 (QOp.pure (Pure.nilchk rfl)) ?_
    refine Any.takeY 16 rfl (by kernel_rfl) rfl rfl rfl rfl c14 (QOp.pure (Pure.fieldAddrB fld35_1 rfl)) ?_
    refine Any.takeY 17 rfl (by kernel_rfl) rfl rfl rfl rfl c14 (QOp.pure (Pure.ldP cell2 rfl (RdL.old hp') rfl)) ?_
    refine Any.takeY 18 rfl (by kernel_rfl) rfl rfl rfl rfl c14 (QOp.pure (Pure.eql rfl rfl)) ?_
    refine Any.take 19 rfl (by kernel_rfl) rfl (QOp.pure (Pure.pickT rfl c14 rfl)) ?_
    refine Any.take 20 rfl (by kernel_rfl) rfl (QOp.pure (Pure.move rfl)) ?_
    refine Any.splitG 25 rfl (fun c25 => ?_) (fun c25 => ?_)
    · skip
      have c25' := dT c25
      refine Any.takeY 21 rfl (by kernel_rfl) rfl rfl rfl rfl c25 (QOp.pure (Pure.move rfl)) ?_
      refine Any.takeY 22 rfl (by kernel_rfl) rfl rfl rfl rfl c25 (QOp.pure (Pure.nilchk rfl)) ?_
      refine Any.takeY 23 rfl (by kernel_rfl) rfl rfl rfl rfl c25 (QOp.pure (Pure.fieldAddrB fld35_2 rfl)) ?_
      refine Any.takeY 24 rfl (by kernel_rfl) rfl rfl rfl rfl c25 (QOp.pure (Pure.ldP cell32 rfl (RdL.old hp) rfl)) ?_
      refine Any.takeY 25 rfl (by kernel_rfl) rfl rfl rfl rfl c25 (QOp.pure (Pure.move rfl)) ?_
      refine Any.takeY 26 rfl (by kernel_rfl) rfl rfl rfl rfl c25 (QOp.pure (Pure.nilchk rfl)) ?_
      refine Any.takeY 27 rfl (by kernel_rfl) rfl rfl rfl rfl c25 (QOp.pure (Pure.fieldAddrB fld35_2 rfl)) ?_
      refine Any.takeY 28 rfl (by kernel_rfl) rfl rfl rfl rfl c25 (QOp.pure (Pure.ldP cell32 rfl (RdL.old hp') rfl)) ?_
      refine Any.takeY 29 rfl (by kernel_rfl) rfl rfl rfl rfl c25 (QOp.call fn90 rfl (fun w hw => f_s_l00Same w _ _ _ _ (RdL.old hv w hw) (RdL.old hv' w hw) hl hl')) ?_
      refine Any.take 30 rfl (by kernel_rfl) rfl (QOp.pure (Pure.pickT rfl c25 rfl)) ?_
      refine Any.take 31 rfl (by kernel_rfl) rfl (QOp.pure (Pure.assign rfl)) ?_
      refine Any.done (by kernel_rfl) ?_
      refine Run.ret1 rfl rfl ?_
      first
        | rfl
        | (simp_all; done)
    · skip
      have c25' := dF c25
      refine Any.takeN 21 rfl (by kernel_rfl) rfl rfl rfl rfl (by rw [c25]; decide) ?_
      refine Any.takeN 22 rfl (by kernel_rfl) rfl rfl rfl rfl (by rw [c25]; decide) ?_
      refine Any.takeN 23 rfl (by kernel_rfl) rfl rfl rfl rfl (by rw [c25]; decide) ?_
      refine Any.takeN 24 rfl (by kernel_rfl) rfl rfl rfl rfl (by rw [c25]; decide) ?_
      refine Any.takeN 25 rfl (by kernel_rfl) rfl rfl rfl rfl (by rw [c25]; decide) ?_
      refine Any.takeN 26 rfl (by kernel_rfl) rfl rfl rfl rfl (by rw [c25]; decide) ?_
      refine Any.takeN 27 rfl (by kernel_rfl) rfl rfl rfl rfl (by rw [c25]; decide) ?_
      refine Any.takeN 28 rfl (by kernel_rfl) rfl rfl rfl rfl (by rw [c25]; decide) ?_
      refine Any.takeN 29 rfl (by kernel_rfl) rfl rfl rfl rfl (by rw [c25]; decide) ?_
      refine Any.take 30 rfl (by kernel_rfl) rfl (QOp.pure (Pure.pickF rfl c25 rfl)) ?_
      refine Any.take 31 rfl (by kernel_rfl) rfl (QOp.pure (Pure.assign rfl)) ?_
      refine Any.done (by kernel_rfl) ?_
      refine Run.ret1 rfl rfl ?_
      first
        | rfl
        | (simp_all; done)
  · skip
    have c14' := dF c14
    refine Any.takeN 10 rfl (by kernel_rfl) rfl rfl rfl rfl (by rw [c14]; decide) ?_
    refine Any.takeN 11 rfl (by kernel_rfl) rfl rfl rfl rfl (by rw [c14]; decide) ?_
    refine Any.takeN 12 rfl (by kernel_rfl) rfl rfl rfl rfl (by rw [c14]; decide) ?_
    refine Any.takeN 13 rfl (by kernel_rfl) rfl rfl rfl rfl (by rw [c14]; decide) ?_
    refine Any.takeN 14 rfl (by kernel_rfl) rfl rfl rfl rfl (by rw [c14]; decide) ?_
    refine Any.takeN 15 rfl (by kernel_rfl) rfl rfl rfl rfl (by rw [c14]; decide) ?_
    refine Any.takeN 16 rfl (by kernel_rfl) rfl rfl rfl rfl (by rw [c14]; decide) ?_
    refine Any.takeN 17 rfl (by kernel_rfl) rfl rfl rfl rfl (by rw [c14]; decide) ?_
    refine Any.takeN 18 rfl (by kernel_rfl) rfl rfl rfl rfl (by rw [c14]; decide) ?_
    refine Any.take 19 rfl (by kernel_rfl) rfl (QOp.pure (Pure.pickF rfl c14 rfl)) ?_
    refine Any.take 20 rfl (by kernel_rfl) rfl (QOp.pure (Pure.move rfl)) ?_
    refine Any.takeN 21 rfl (by kernel_rfl) rfl rfl rfl rfl (by decide) ?_
    refine Any.takeN 22 rfl (by kernel_rfl) rfl rfl rfl rfl (by decide) ?_
    refine Any.takeN 23 rfl (by kernel_rfl) rfl rfl rfl rfl (by decide) ?_
    refine Any.takeN 24 rfl (by kernel_rfl) rfl rfl rfl rfl (by decide) ?_
    refine Any.takeN 25 rfl (by kernel_rfl) rfl rfl rfl rfl (by decide) ?_
    refine Any.takeN 26 rfl (by kernel_rfl) rfl rfl rfl rfl (by decide) ?_
    refine Any.takeN 27 rfl (by kernel_rfl) rfl rfl rfl rfl (by decide) ?_
    refine Any.takeN 28 rfl (by kernel_rfl) rfl rfl rfl rfl (by decide) ?_
    refine Any.takeN 29 rfl (by kernel_rfl) rfl rfl rfl rfl (by decide) ?_
    refine Any.take 30 rfl (by kernel_rfl) rfl (QOp.pure (Pure.pickF rfl rfl rfl)) ?_
    refine Any.take 31 rfl (by kernel_rfl) rfl (QOp.pure (Pure.assign rfl)) ?_
    refine Any.done (by kernel_rfl) ?_
    refine Run.ret1 rfl rfl ?_
    first
      | rfl
      | (simp_all; done)

set_option maxRecDepth 4000 in
/-- spec.SamePanel -/
theorem f_s_SamePanel (w : World) (a : Int) (b : Int) (v : Value) (l : List Int) (a' : Int) (b' : Int) (v' : Value) (l' : List Int) (hv : Rd w v 1 l.length (ints l)) (hv' : Rd w v' 1 l'.length (ints l')) (hl : l.length ≤ 1073741824) (hl' : l'.length ≤ 1073741824) : RetV Try.prog 44 [.agg #[.int .i64 a, .int .i64 b, v], .agg #[.int .i64 a', .int .i64 b', v']] w (.bool (decide (a = a' ∧ b = b' ∧ l = l'))) := by
  refine Ret.enter Try.func44 rfl Try.ntmps44 rfl ?_
  refine Run.seq ?_
  refine Run.region ?_
  refine Ops.go rfl (Loud.box rfl rfl) ?_
  rintro _ _ ⟨b2, rfl, rfl⟩
  refine Ops.go rfl (Loud.box rfl rfl) ?_
  rintro _ _ ⟨b3, rfl, rfl⟩
  refine Ops.pure rfl (Pure.assign rfl) ?_
  refine Ops.nil ?_
  refine Run.seq ?_
  refine Run.region ?_
  refine Ops.q rfl (QOp.call fn123 rfl (fun w hw => f_s_l02Same w _ _ _ _ _ _ _ _ _ _ (by exact RdL.boxM 1 rfl rfl w hw) (by exact RdL.boxM 0 rfl rfl w hw) (by exact RdL.old (by assumption) w hw) (by exact RdL.old (by assumption) w hw) (by assumption) (by assumption))) ?_
  refine Ops.pure rfl (Pure.assign rfl) ?_
  refine Ops.nil ?_
  refine Run.ret1 rfl rfl ?_
  rfl

end Go.Proofs.Ytmfinopdokkjcaa
