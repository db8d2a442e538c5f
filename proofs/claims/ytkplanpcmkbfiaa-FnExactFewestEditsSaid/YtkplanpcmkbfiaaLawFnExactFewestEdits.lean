/- The law FnExactFewestEdits holds. No condition. -/
import Derived.Test.YtkplanpcmkbfiaaLawSx
import Derived.Test.YtkplanpcmkbfiaaGlue
import Derived.ChangeMaps5
namespace Go.Proofs.Ytkplanpcmkbfiaa.LawFnExactFewestEdits
open Go.ChangeShapes Go.WideShapes Go.ChangeMaps Go.ChangeAt Go.RowKit Go.AW

theorem own : ownKnob Try.prog.godebug = none := by kernel_rfl
theorem laidOut : laidOutB Try.prog = true := by kernel_rfl

set_option maxRecDepth 100000 in
theorem lifted (os : Os) (started : os.Started) (H : Type) (enc : TypeId × Value → H) :
    ReturnsInHanded {} Try.checked os 6 .any (Rows.fnExactFewestEditsSpec.pre6 enc Try.prog Try.f6 Rows.fnExactFewestEditsRow.domain false) (Rows.fnExactFewestEditsSpec.post enc Try.prog Try.f6 false true false false) := by
  refine returnsInHanded_of_change (C := Try.checked) own started (by kernel_rfl) Try.func6
    (ChangeSpec.witness6 (enc := enc) (C := Try.checked) false ⟨#[], #[.agg #[.int .i64 0, .int .i64 0, .slice none 0 0], .int .i64 0, .int .i64 0], []⟩ 8 (by kernel_rfl) (by kernel_rfl) (by kernel_rfl) (by kernel_rfl)) ?_
  intro W base args ds gs before hval0 hW hcnd _
  have hval : ∀ (j : Nat) t v, Try.f6.params[j]? = some t → args[j]? = some v → Value.okWide Try.prog W .any base t v := hval0
  have hW' := hW
  obtain ⟨p, q, hA0, hV, rfl, hfz, hnd⟩ := hW
  have hA : DataW.TrodAll enc Try.prog W 0 (fun _ => true) true Try.f6.params.toList args.toList ds p := hA0
  rw [Try.params6] at hA hval
  obtain ⟨v0, vs0, d0, ds0, p0, q0, hargs0, rfl, rfl, h0, r0⟩ := trodAll_cons hA
  obtain ⟨v1, vs1, d1, ds1, p1, q1, hargs1, rfl, rfl, h1, r1⟩ := trodAll_cons r0
  obtain ⟨v2, vs2, d2, ds2, p2, q2, hargs2, rfl, rfl, h2, r2⟩ := trodAll_cons r1
  obtain ⟨rfl, rfl, rfl⟩ := trodAll_nil r2
  obtain rfl : args = #[v0, v1, v2] := by cases args; simp_all
  obtain ⟨rfl, rfl⟩ := trodVars_none hV
  have k0 := h0
  have lt0 := trod_lt' k0
  have k1 := h1
  have lt1 := trod_lt' k1
  have k2 := h2
  have lt2 := trod_lt' k2
  obtain ⟨cs0, rfl, -⟩ := okWide_struct Try.underlying24 (hval 0 24 v0 rfl rfl)
  obtain ⟨fuel0, hf0⟩ := h0
  obtain ⟨⟨a0, b0, v0, l0⟩, hcs0, hx0, hy0, hr0, -, hn0⟩ := (Dec.triple (m0 := 1) (m1 := 1) (m2 := 1) Try.underlying24 rfl (by kernel_rfl) rfl (by kernel_rfl) rfl (by kernel_rfl) (by kernel_rfl) (Dec.int Try.underlying2) (Dec.int Try.underlying2) (Dec.ofSlice (m := 1) Try.underlying22 (by kernel_rfl) (by decide) (fun _ => rfl) (Dec.int Try.underlying2))) _ _ _ hf0
  obtain rfl : cs0 = #[.int .i64 a0, .int .i64 b0, v0] := by apply Array.ext'; exact hcs0
  rw [flatMap_one] at hr0
  obtain ⟨x1, rfl, -, -, hx1⟩ := open_int Try.underlying2 (hval 1 2 v1 rfl rfl) h1
  obtain ⟨x2, rfl, -, -, hx2⟩ := open_int Try.underlying2 (hval 2 2 v2 rfl rfl) h2
  clear hA0 hval0
  have hc : Calls Try.prog 6 #[.agg #[.int .i64 a0, .int .i64 b0, v0], .int .i64 x1, .int .i64 x2] W (fun e w' => ∃ v L', e = .returned v ∧ Sat W w' L' ∧ v = .bool true) := f_l_FnExactFewestEdits W a0 b0 v0 l0 x1 x2 hr0 hn0 hx0.1 hx0.2 hy0.1 hy0.2 (wf_i64 hx1).1 (wf_i64 hx1).2 (wf_i64 hx2).1 (wf_i64 hx2).2
  refine hc.mono ?_
  rintro e W' ⟨v, L', rfl, hs, rfl⟩
  have bel := hs.below
  exact ⟨_, rfl, _, _, _, [], _, [], hW', trodAll_mk1 (shut_bool Try.underlying4 _), (trodAll_cons_mk (Below.trod laidOut (by kernel_rfl) (of_decide_eq_true (by kernel_rfl)) k0 bel lt0) (trodAll_cons_mk (Below.trod laidOut (by kernel_rfl) (of_decide_eq_true (by kernel_rfl)) k1 bel lt1) (trodAll_cons_mk (Below.trod laidOut (by kernel_rfl) (of_decide_eq_true (by kernel_rfl)) k2 bel lt2) trodAll_mk0))), rfl, bel.frame _, fun h => by cases h⟩

theorem over : Rows.fnExactFewestEditsRow.holds Try.pinned (OpenSpec.ofChange Rows.fnExactFewestEditsSpec) :=
  OpenClaim.holds_of_wide 6 Try.f6 rfl rfl rfl rfl rfl rfl rfl ⟨rfl, rfl, rfl, rfl, rfl⟩ rfl rfl rfl rfl rfl (by kernel_rfl) Try.func6 (by kernel_rfl)
    (of_decide_eq_true (by kernel_rfl)) (by unfold Func.isWrapper; first | (rw [if_pos (by decide +kernel)]; kernel_rfl) | (rw [if_neg (by decide +kernel)]; exact ⟨rfl, rfl⟩))
    (fun os started H enc _ => lifted os started H enc)

theorem proved : Rows.FnExactFewestEditsSaid := over
#print axioms proved
end Go.Proofs.Ytkplanpcmkbfiaa.LawFnExactFewestEdits
