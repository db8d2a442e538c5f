/- Contracts of functions, printed by program from annotations. -/
import Derived.Test.YtmfinopdokkjcaaDrw3
import Derived.Test.YtmfinopdokkjcaaTbdM
import Derived.Test.YtmfinopdokkjcaaTab2
import Derived.Test.YtmfinopdokkjcaaStpL
namespace Go.Proofs.Ytmfinopdokkjcaa
open Go Go.AW Go.RowKit
set_option linter.unusedVariables false
set_option linter.unusedSimpArgs false

theorem pn_zero {a b : Int} {l : List Int} (h : pnE a b l = 0) : okP a b l = true ∧ pcE a b = 0 ∧ pnN a b l = numTo l l.length := by
  cases hk : okP a b l with
  | false => rw [(pn_bad hk).1] at h; cases h
  | true =>
    by_cases h0 : pcE a b = 0
    · exact ⟨rfl, h0, (pn_ok hk h0).2⟩
    · rw [(pn_many hk h0).1] at h; exact absurd h h0
theorem many_p3 {a b : Int} (h : pcE a b = 0) : many a b = p3 (inn a b) ∧ p3 (inn a b) ≤ 2500 ∧ pcN a b = (p3 (inn a b) : Int) := by
  obtain ⟨_, h2, h3⟩ := pc_zero h
  have h4 : many a b = min 2501 (p3 (inn a b)) := rfl
  have h5 : p3 (inn a b) ≤ 2500 := by omega
  have h6 : many a b = p3 (inn a b) := by omega
  exact ⟨h6, h5, by rw [h3, h6]⟩
theorem tab_back {a b : Int} {l : List Int} (h : pnE a b l = 0) : pwE a b (pnN a b l) = 0 ∧ pwL a b (pnN a b l) = l ∧ (∀ x, pwZ a b (pnN a b l) x = x) ∧ 0 ≤ pnN a b l ∧ pnN a b l ≤ 2500 := by
  obtain ⟨hk, hp, hn⟩ := pn_zero h
  obtain ⟨_, hl, hx⟩ := okP_spec hk
  obtain ⟨q1, q2, q3⟩ := pdig_num l hx
  obtain ⟨m1, m2, m3⟩ := many_p3 hp
  have e1 : pwE a b (pnN a b l) = 0 := pwE_ok hp (by rw [hn, m3, ← hl]; omega)
  refine ⟨e1, ?_, fun x => by unfold pwZ; rw [if_pos e1], by rw [hn]; exact q1, by rw [hn]; rw [hl] at q2; rw [hl]; omega⟩
  unfold pwL
  rw [if_pos e1, hn, ← hl, q3]
theorem pw_zero {a b c : Int} (h : pwE a b c = 0) : pcE a b = 0 ∧ 0 ≤ c ∧ c ≤ pcN a b - 1 := by
  by_cases h0 : pcE a b = 0
  · by_cases hc : 0 ≤ c ∧ c ≤ pcN a b - 1
    · exact ⟨h0, hc.1, hc.2⟩
    · rw [pwE_out h0 hc] at h; cases h
  · rw [pwE_many h0] at h; exact absurd h h0
theorem pw_back {a b c : Int} (h : pwE a b c = 0) : (∀ x, pwZ a b c x = x) ∧ (pwL a b c).length ≤ 120 ∧ pnE a b (pwL a b c) = 0 ∧ pnN a b (pwL a b c) = c := by
  obtain ⟨hp, h1, h2⟩ := pw_zero h
  obtain ⟨m1, m2, m3⟩ := many_p3 hp
  have hs := (pc_zero hp).1
  have hL : pwL a b c = pdig c.toNat (inn a b) := by unfold pwL; rw [if_pos h]
  have hk : okP a b (pwL a b c) = true := by rw [hL]; exact okP_pdig hs _
  have hib := (inn_eq hs).2.1
  have hlen : (pwL a b c).length = inn a b := by rw [hL, length_pdig]
  refine ⟨fun x => by unfold pwZ; rw [if_pos h], by omega, (pn_ok hk hp).1, ?_⟩
  rw [(pn_ok hk hp).2, hlen, hL, numTo_pdig, Nat.mod_eq_of_lt (by omega)]
  omega
theorem fw_zero {a b c : Int} (h : fwE a b c = 0) : (∀ x, fwA a b c x = x) ∧ okP a b (fwL a b c) = true ∧ (cnt a b (fwL a b c) : Int) = c := by
  by_cases h0 : pcE a b = 0
  · have h1 : (fwF a b c).isSome = true := by
      unfold fwE at h
      rw [if_pos h0] at h
      split at h
      · assumption
      · cases h
    obtain ⟨k, hk⟩ := Option.isSome_iff_exists.1 h1
    have hL : fwL a b c = pdig k (inn a b) := by unfold fwL; rw [hk]
    have hk2 := hk
    unfold fwF at hk2
    rw [if_pos h0] at hk2
    obtain ⟨_, _, h3, _⟩ := firstF_spec hk2
    have h4 := of_decide_eq_true h3
    refine ⟨fun x => by unfold fwA; rw [h1]; rfl, by rw [hL]; exact okP_pdig (pc_zero h0).1 k, ?_⟩
    rw [hL]
    exact h4
  · rw [(fw_bad h0).1] at h; exact absurd h h0
theorem pwL_size (a b c : Int) : (pwL a b c).length ≤ 120 := by
  by_cases h : pwE a b c = 0
  · exact (pw_back h).2.1
  · unfold pwL; rw [if_neg h]; exact Nat.zero_le _

set_option maxRecDepth 4000 in
set_option maxHeartbeats 1000000 in
/-- laws.FnTabled -/
theorem f_l_FnTabled (w : World) (vc : Value) (co : List Int) (hc : Rd w vc 1 co.length (AW.bytes co)) (hcl : co.length ≤ 9223372036854775807) (hb : ∀ x ∈ co, 0 ≤ x ∧ x ≤ 255) : RetV Try.prog 6 [vc] w (.bool true) := by
  refine Ret.enter Try.func6 rfl Try.ntmps6 rfl ?_
  refine Run.seq ?_
  refine Run.region ?_
  refine Ops.pure rfl (Pure.assign rfl) ?_
  refine Ops.nil ?_
  refine Run.seq ?_
  refine Run.seq ?_
  refine Run.region ?_
  refine Ops.pure rfl (Pure.move rfl) ?_
  refine Ops.q rfl (QOp.call fn31 rfl (fun w hw => f_l_f6big w vc _ _ (RdL.old hc w hw))) ?_
  refine Ops.nil ?_
  refine Run.cond rfl (fun c35 => ?_) (fun c35 => ?_)
  · skip
    replace c35 := dT c35
    refine Run.seq ?_
    refine Run.region ?_
    refine Ops.pure rfl (Pure.assign rfl) ?_
    refine Ops.nil ?_
    refine Run.ret1 rfl rfl ?_
    rfl
  · skip
    replace c35 := dF c35
    have hcl2 : co.length ≤ 1000000000 := by omega
    refine Run.skip ?_
    refine Run.seq ?_
    refine Run.region ?_
    refine Ops.pure rfl (Pure.move rfl) ?_
    refine Ops.go rfl (Loud.callR fn32 rfl (fun w hw => f_s_DrawPanelWith w vc co (RdL.old hc w hw) hb hcl2)) ?_
    rintro v38 _ ⟨L38, hQ38, rfl⟩
    obtain ⟨a38, c38, n38, ha38, hA38, hc38, hC38, hn38, hN38, rfl, rfl⟩ := hQ38
    refine Ops.pure rfl (Pure.move rfl) ?_
    refine Ops.pure rfl (Pure.extract rfl rfl) ?_
    refine Ops.pure rfl (Pure.extract rfl rfl) ?_
    refine Ops.pure rfl (Pure.extract rfl rfl) ?_
    refine Ops.pure rfl (Pure.assign rfl) ?_
    refine Ops.pure rfl (Pure.assign rfl) ?_
    refine Ops.pure rfl (Pure.assign rfl) ?_
    refine Ops.nil ?_
    refine Run.seq ?_
    have hz1 := pwL_size a38 c38 n38
    refine Run.region ?_
    refine Ops.pure rfl (Pure.move rfl) ?_
    refine Ops.pure rfl (Pure.move rfl) ?_
    refine Ops.pure rfl (Pure.move rfl) ?_
    refine Ops.go rfl (Loud.callR fn33 rfl (fun w hw => f_i_PanelWith w _ _ _ (by omega) (by omega) (by omega) (by omega) (by omega) (by omega))) ?_
    rintro v46 _ ⟨L46, hQ46, rfl⟩
    obtain ⟨x46, h46, rfl, rfl⟩ := hQ46
    refine Ops.pure rfl (Pure.move rfl) ?_
    refine Ops.pure rfl (Pure.extract rfl rfl) ?_
    refine Ops.pure rfl (Pure.extract rfl rfl) ?_
    refine Ops.go rfl (Loud.alloc zero35 rfl) ?_
    rintro _ _ ⟨b6, rfl, rfl⟩
    refine Ops.store (Stores.box 0 rfl rfl rfl size35 (one3 h46) rfl rfl) ?_
    refine Ops.pure rfl (Pure.assign rfl) ?_
    refine Ops.nil ?_
    refine Run.seq ?_
    refine Run.region ?_
    refine Ops.pure rfl (Pure.move rfl) ?_
    refine Ops.pure rfl (Pure.move rfl) ?_
    refine Ops.pure rfl (Pure.move rfl) ?_
    refine Ops.go rfl (Loud.callR fn34 rfl (fun w hw => f_s_PanelWith w _ _ _ (by omega) (by omega) (by omega) (by omega) (by omega) (by omega))) ?_
    rintro v53 _ ⟨L53, hQ53, rfl⟩
    obtain ⟨x53, h53, rfl, rfl⟩ := hQ53
    refine Ops.pure rfl (Pure.move rfl) ?_
    refine Ops.pure rfl (Pure.extract rfl rfl) ?_
    refine Ops.pure rfl (Pure.extract rfl rfl) ?_
    refine Ops.go rfl (Loud.alloc zero35 rfl) ?_
    rintro _ _ ⟨b8, rfl, rfl⟩
    refine Ops.store (Stores.box 0 rfl rfl rfl size35 (one3 h53) rfl rfl) ?_
    refine Ops.pure rfl (Pure.assign rfl) ?_
    refine Ops.nil ?_
    refine Run.seq ?_
    refine Run.region ?_
    refine Ops.pure rfl (Pure.move rfl) ?_
    refine Ops.go rfl (Loud.callR fn35 rfl (fun w hw => f_s_DrawPanelNumber w vc co (RdL.old hc w hw) hb hcl2)) ?_
    rintro v57 _ ⟨L57, hQ57, rfl⟩
    obtain ⟨a57, c57, l57, x57, ha57, hA57, hc57, hC57, hn57, h57, rfl, rfl⟩ := hQ57
    refine Ops.go rfl (Loud.alloc zero35 rfl) ?_
    rintro _ _ ⟨b10, rfl, rfl⟩
    refine Ops.store (Stores.box 0 rfl rfl rfl size35 (one3 h57) rfl rfl) ?_
    refine Ops.nil ?_
    refine Run.seq ?_
    refine Run.region ?_
    refine Ops.pure rfl (Pure.ldBA 0 rfl cell35 rfl rfl rfl) ?_
    refine Ops.q rfl (QOp.call fn36 rfl (fun w hw => f_i_PanelNumber w _ _ _ _ (by exact RdL.own 1 rfl w hw) (by omega) (by assumption) (by omega) (by omega) (by omega))) ?_
    refine Ops.pure rfl (Pure.move rfl) ?_
    refine Ops.pure rfl (Pure.extract rfl rfl) ?_
    refine Ops.pure rfl (Pure.extract rfl rfl) ?_
    refine Ops.pure rfl (Pure.assign rfl) ?_
    refine Ops.pure rfl (Pure.assign rfl) ?_
    refine Ops.nil ?_
    refine Run.seq ?_
    refine Run.region ?_
    refine Ops.pure rfl (Pure.ldBA 0 rfl cell35 rfl rfl rfl) ?_
    refine Ops.q rfl (QOp.call fn37 rfl (fun w hw => f_s_PanelNumber w _ _ _ _ (by exact RdL.own 1 rfl w hw) (by omega) (by assumption) (by omega) (by omega) (by omega))) ?_
    refine Ops.pure rfl (Pure.move rfl) ?_
    refine Ops.pure rfl (Pure.extract rfl rfl) ?_
    refine Ops.pure rfl (Pure.extract rfl rfl) ?_
    refine Ops.pure rfl (Pure.assign rfl) ?_
    refine Ops.pure rfl (Pure.assign rfl) ?_
    refine Ops.nil ?_
    refine Run.seq ?_
    refine Run.region ?_
    refine Ops.pure rfl (Pure.move rfl) ?_
    refine Ops.go rfl (Loud.callR fn38 rfl (fun w hw => f_s_DrawPanelCount w vc co (RdL.old hc w hw) hb hcl2)) ?_
    rintro v70 _ ⟨L70, hQ70, rfl⟩
    obtain ⟨a70, c70, ha70, hA70, hc70, hC70, rfl, rfl⟩ := hQ70
    refine Ops.pure rfl (Pure.move rfl) ?_
    refine Ops.pure rfl (Pure.extract rfl rfl) ?_
    refine Ops.pure rfl (Pure.extract rfl rfl) ?_
    refine Ops.pure rfl (Pure.assign rfl) ?_
    refine Ops.pure rfl (Pure.assign rfl) ?_
    refine Ops.nil ?_
    refine Run.seq ?_
    refine Run.region ?_
    refine Ops.pure rfl (Pure.move rfl) ?_
    refine Ops.pure rfl (Pure.move rfl) ?_
    refine Ops.q rfl (QOp.call fn39 rfl (fun w hw => f_i_PanelCount w _ _ (by omega) (by omega) (by omega) (by omega))) ?_
    refine Ops.pure rfl (Pure.move rfl) ?_
    refine Ops.pure rfl (Pure.extract rfl rfl) ?_
    refine Ops.pure rfl (Pure.extract rfl rfl) ?_
    refine Ops.pure rfl (Pure.assign rfl) ?_
    refine Ops.pure rfl (Pure.assign rfl) ?_
    refine Ops.nil ?_
    refine Run.seq ?_
    refine Run.region ?_
    refine Ops.pure rfl (Pure.move rfl) ?_
    refine Ops.pure rfl (Pure.move rfl) ?_
    refine Ops.q rfl (QOp.call fn40 rfl (fun w hw => f_s_PanelCount w _ _ (by omega) (by omega) (by omega) (by omega))) ?_
    refine Ops.pure rfl (Pure.move rfl) ?_
    refine Ops.pure rfl (Pure.extract rfl rfl) ?_
    refine Ops.pure rfl (Pure.extract rfl rfl) ?_
    refine Ops.pure rfl (Pure.assign rfl) ?_
    refine Ops.pure rfl (Pure.assign rfl) ?_
    refine Ops.nil ?_
    refine Run.seq ?_
    refine Run.region ?_
    refine Ops.pure rfl (Pure.move rfl) ?_
    refine Ops.go rfl (Loud.callR fn41 rfl (fun w hw => f_s_DrawFirstWith w vc co (RdL.old hc w hw) hb hcl2)) ?_
    rintro v87 _ ⟨L87, hQ87, rfl⟩
    obtain ⟨a87, c87, n87, ha87, hA87, hc87, hC87, hn87, hN87, rfl, rfl⟩ := hQ87
    refine Ops.pure rfl (Pure.move rfl) ?_
    refine Ops.pure rfl (Pure.extract rfl rfl) ?_
    refine Ops.pure rfl (Pure.extract rfl rfl) ?_
    refine Ops.pure rfl (Pure.extract rfl rfl) ?_
    refine Ops.pure rfl (Pure.assign rfl) ?_
    refine Ops.pure rfl (Pure.assign rfl) ?_
    refine Ops.pure rfl (Pure.assign rfl) ?_
    refine Ops.nil ?_
    refine Run.seq ?_
    have hz2 := fwL_size a87 c87 n87
    refine Run.region ?_
    refine Ops.pure rfl (Pure.move rfl) ?_
    refine Ops.pure rfl (Pure.move rfl) ?_
    refine Ops.pure rfl (Pure.move rfl) ?_
    refine Ops.go rfl (Loud.callR fn42 rfl (fun w hw => f_i_FirstWith w _ _ _ (by omega) (by omega) (by omega) (by omega) (by omega) (by omega))) ?_
    rintro v95 _ ⟨L95, hQ95, rfl⟩
    obtain ⟨x95, h95, rfl, rfl⟩ := hQ95
    refine Ops.pure rfl (Pure.move rfl) ?_
    refine Ops.pure rfl (Pure.extract rfl rfl) ?_
    refine Ops.pure rfl (Pure.extract rfl rfl) ?_
    refine Ops.go rfl (Loud.alloc zero35 rfl) ?_
    rintro _ _ ⟨b24, rfl, rfl⟩
    refine Ops.store (Stores.box 0 rfl rfl rfl size35 (one3 h95) rfl rfl) ?_
    refine Ops.pure rfl (Pure.assign rfl) ?_
    refine Ops.nil ?_
    refine Run.seq ?_
    refine Run.region ?_
    refine Ops.pure rfl (Pure.move rfl) ?_
    refine Ops.pure rfl (Pure.move rfl) ?_
    refine Ops.pure rfl (Pure.move rfl) ?_
    refine Ops.go rfl (Loud.callR fn43 rfl (fun w hw => f_s_FirstWith w _ _ _ (by omega) (by omega) (by omega) (by omega) (by omega) (by omega))) ?_
    rintro v102 _ ⟨L102, hQ102, rfl⟩
    obtain ⟨x102, h102, rfl, rfl⟩ := hQ102
    refine Ops.pure rfl (Pure.move rfl) ?_
    refine Ops.pure rfl (Pure.extract rfl rfl) ?_
    refine Ops.pure rfl (Pure.extract rfl rfl) ?_
    refine Ops.go rfl (Loud.alloc zero35 rfl) ?_
    rintro _ _ ⟨b26, rfl, rfl⟩
    refine Ops.store (Stores.box 0 rfl rfl rfl size35 (one3 h102) rfl rfl) ?_
    refine Ops.pure rfl (Pure.assign rfl) ?_
    refine Ops.nil ?_
    refine Run.seq ?_
    refine Run.seq ?_
    refine Run.region ?_
    refine Ops.pure rfl (Pure.move rfl) ?_
    refine Ops.pure rfl (Pure.move rfl) ?_
    refine Ops.pure rfl (Pure.neq rfl rfl) ?_
    refine Ops.pure rfl (Pure.move rfl) ?_
    refine Ops.guardY rfl rfl rfl (by simp) ?_
    refine Ops.pure rfl (Pure.ldBA 8 rfl cell35 rfl rfl rfl) ?_
    refine Ops.guardY rfl rfl rfl (by simp) ?_
    refine Ops.pure rfl (Pure.ldBA 6 rfl cell35 rfl rfl rfl) ?_
    refine Ops.guardY rfl rfl rfl (by simp) ?_
    refine Ops.q rfl (QOp.call fn44 rfl (fun w hw => f_s_SamePanel w _ _ _ _ _ _ _ _ (by exact RdL.own 9 rfl w hw) (by exact RdL.own 7 rfl w hw) (by omega) (by omega))) ?_
    refine Ops.guardY rfl rfl rfl (by simp) ?_
    refine Ops.pure rfl (Pure.not rfl) ?_
    refine Ops.pure rfl (Pure.pickF rfl (by simp) rfl) ?_
    refine Ops.pure rfl (Pure.move rfl) ?_
    refine Ops.guardY rfl rfl rfl (by simp) ?_
    refine Ops.pure rfl (Pure.move rfl) ?_
    refine Ops.guardY rfl rfl rfl (by simp) ?_
    refine Ops.pure rfl (Pure.move rfl) ?_
    refine Ops.guardY rfl rfl rfl (by simp) ?_
    refine Ops.pure rfl (Pure.neq rfl rfl) ?_
    refine Ops.pure rfl (Pure.pickF rfl (by simp) rfl) ?_
    refine Ops.pure rfl (Pure.move rfl) ?_
    refine Ops.guardY rfl rfl rfl (by simp) ?_
    refine Ops.pure rfl (Pure.move rfl) ?_
    refine Ops.guardY rfl rfl rfl (by simp) ?_
    refine Ops.pure rfl (Pure.move rfl) ?_
    refine Ops.guardY rfl rfl rfl (by simp) ?_
    refine Ops.pure rfl (Pure.neq rfl rfl) ?_
    refine Ops.pure rfl (Pure.pickF rfl (by simp) rfl) ?_
    refine Ops.pure rfl (Pure.move rfl) ?_
    refine Ops.guardY rfl rfl rfl (by simp) ?_
    refine Ops.pure rfl (Pure.move rfl) ?_
    refine Ops.guardY rfl rfl rfl (by simp) ?_
    refine Ops.pure rfl (Pure.move rfl) ?_
    refine Ops.guardY rfl rfl rfl (by simp) ?_
    refine Ops.pure rfl (Pure.neq rfl rfl) ?_
    refine Ops.pure rfl (Pure.pickF rfl (by simp) rfl) ?_
    refine Ops.pure rfl (Pure.move rfl) ?_
    refine Ops.guardY rfl rfl rfl (by simp) ?_
    refine Ops.pure rfl (Pure.move rfl) ?_
    refine Ops.guardY rfl rfl rfl (by simp) ?_
    refine Ops.pure rfl (Pure.move rfl) ?_
    refine Ops.guardY rfl rfl rfl (by simp) ?_
    refine Ops.pure rfl (Pure.neq rfl rfl) ?_
    refine Ops.pure rfl (Pure.pickF rfl (by simp) rfl) ?_
    refine Ops.pure rfl (Pure.move rfl) ?_
    refine Ops.guardY rfl rfl rfl (by simp) ?_
    refine Ops.pure rfl (Pure.move rfl) ?_
    refine Ops.guardY rfl rfl rfl (by simp) ?_
    refine Ops.pure rfl (Pure.move rfl) ?_
    refine Ops.guardY rfl rfl rfl (by simp) ?_
    refine Ops.pure rfl (Pure.neq rfl rfl) ?_
    refine Ops.pure rfl (Pure.pickF rfl (by simp) rfl) ?_
    refine Ops.pure rfl (Pure.move rfl) ?_
    refine Ops.guardY rfl rfl rfl (by simp) ?_
    refine Ops.pure rfl (Pure.ldBA 2 rfl cell35 rfl rfl rfl) ?_
    refine Ops.guardY rfl rfl rfl (by simp) ?_
    refine Ops.pure rfl (Pure.ldBA 0 rfl cell35 rfl rfl rfl) ?_
    refine Ops.guardY rfl rfl rfl (by simp) ?_
    refine Ops.q rfl (QOp.call fn44 rfl (fun w hw => f_s_SamePanel w _ _ _ _ _ _ _ _ (by exact RdL.own 3 rfl w hw) (by exact RdL.own 1 rfl w hw) (by omega) (by omega))) ?_
    refine Ops.guardY rfl rfl rfl (by simp) ?_
    refine Ops.pure rfl (Pure.not rfl) ?_
    refine Ops.pure rfl (Pure.pickF rfl (by simp) rfl) ?_
    refine Ops.nil ?_
    refine Run.condEF rfl (by simp) ?_
    refine Run.skip ?_
    refine Run.seq ?_
    refine Run.seq ?_
    refine Run.region ?_
    refine Ops.pure rfl (Pure.move rfl) ?_
    refine Ops.pure rfl (Pure.eql rfl rfl) ?_
    refine Ops.nil ?_
    refine Run.cond rfl (fun c146 => ?_) (fun c146 => ?_)
    · skip
      replace c146 := dT c146
      obtain ⟨hb1, hb2, hb3, hb4, hb5⟩ := tab_back c146
      refine Run.seq ?_
      refine Run.region ?_
      refine Ops.pure rfl (Pure.fieldAddrB fld35_0 rfl) ?_
      refine Ops.pure rfl (Pure.ldB 4 rfl cell2 rfl rfl) ?_
      refine Ops.pure rfl (Pure.fieldAddrB fld35_1 rfl) ?_
      refine Ops.pure rfl (Pure.ldB 4 rfl cell2 rfl rfl) ?_
      refine Ops.pure rfl (Pure.move rfl) ?_
      refine Ops.go rfl (Loud.callR fn33 rfl (fun w hw => f_i_PanelWith w _ _ _ (by assumption) (by omega) (by omega) (by omega) (by omega) (by omega))) ?_
      rintro v153 _ ⟨L153, hQ153, rfl⟩
      rw [hb1, hb2, hb3, hb3] at hQ153
      obtain ⟨x153, h153, rfl, rfl⟩ := hQ153
      refine Ops.pure rfl (Pure.move rfl) ?_
      refine Ops.pure rfl (Pure.extract rfl rfl) ?_
      refine Ops.pure rfl (Pure.extract rfl rfl) ?_
      refine Ops.go rfl (Loud.alloc zero35 rfl) ?_
      rintro _ _ ⟨b28, rfl, rfl⟩
      refine Ops.store (Stores.box 0 rfl rfl rfl size35 (one3 h153) rfl rfl) ?_
      refine Ops.pure rfl (Pure.assign rfl) ?_
      refine Ops.nil ?_
      refine Run.seq ?_
      refine Run.region ?_
      refine Ops.pure rfl (Pure.move rfl) ?_
      refine Ops.pure rfl (Pure.neq rfl rfl) ?_
      refine Ops.pure rfl (Pure.move rfl) ?_
      refine Ops.guardY rfl rfl rfl (by simp) ?_
      refine Ops.pure rfl (Pure.ldBA 0 rfl cell35 rfl rfl rfl) ?_
      refine Ops.guardY rfl rfl rfl (by simp) ?_
      refine Ops.pure rfl (Pure.ldBA 6 rfl cell35 rfl rfl rfl) ?_
      refine Ops.guardY rfl rfl rfl (by simp) ?_
      refine Ops.q rfl (QOp.call fn44 rfl (fun w hw => f_s_SamePanel w _ _ _ _ _ _ _ _ (by exact RdL.own 1 rfl w hw) (by exact RdL.own 7 rfl w hw) (by omega) (by omega))) ?_
      refine Ops.guardY rfl rfl rfl (by simp) ?_
      refine Ops.pure rfl (Pure.not rfl) ?_
      refine Ops.pure rfl (Pure.pickF rfl (by simp) rfl) ?_
      refine Ops.nil ?_
      refine Run.condEF rfl (by simp) ?_
      refine Run.skip ?_
      refine Run.seq ?_
      refine Run.seq ?_
      refine Run.region ?_
      refine Ops.pure rfl (Pure.move rfl) ?_
      refine Ops.pure rfl (Pure.eql rfl rfl) ?_
      refine Ops.nil ?_
      refine Run.cond rfl (fun c165 => ?_) (fun c165 => ?_)
      · skip
        replace c165 := dT c165
        obtain ⟨hf1, hf2, hf3⟩ := fw_zero c165
        simp only [hf1]
        refine Run.seq ?_
        refine Run.region ?_
        refine Ops.pure rfl (Pure.ldBA 4 rfl cell35 rfl rfl rfl) ?_
        refine Ops.q rfl (QOp.call fn45 rfl (fun w hw => f_i_CountCurves w _ _ _ _ (by exact RdL.own 5 rfl w hw) (by omega) (by assumption))) ?_
        refine Ops.pure rfl (Pure.move rfl) ?_
        refine Ops.pure rfl (Pure.extract rfl rfl) ?_
        refine Ops.pure rfl (Pure.extract rfl rfl) ?_
        refine Ops.pure rfl (Pure.assign rfl) ?_
        refine Ops.pure rfl (Pure.assign rfl) ?_
        refine Ops.nil ?_
        refine Run.seq ?_
        refine Run.region ?_
        refine Ops.pure rfl (Pure.move rfl) ?_
        refine Ops.pure rfl (Pure.neq rfl rfl) ?_
        refine Ops.pure rfl (Pure.move rfl) ?_
        refine Ops.guardY rfl rfl rfl (by simp) ?_
        refine Ops.pure rfl (Pure.move rfl) ?_
        refine Ops.guardY rfl rfl rfl (by simp) ?_
        refine Ops.pure rfl (Pure.move rfl) ?_
        refine Ops.guardY rfl rfl rfl (by simp) ?_
        refine Ops.pure rfl (Pure.neq rfl rfl) ?_
        refine Ops.pure rfl (Pure.pickF rfl (by simp) rfl) ?_
        refine Ops.nil ?_
        refine Run.condEF rfl (by rw [hf3]; simp) ?_
        refine Run.skip ?_
        refine Run.seq ?_
        refine Run.seq ?_
        refine Run.region ?_
        refine Ops.pure rfl (Pure.move rfl) ?_
        refine Ops.pure rfl (Pure.neq rfl rfl) ?_
        refine Ops.nil ?_
        refine Run.cond rfl (fun c179 => ?_) (fun c179 => ?_)
        · skip
          replace c179 := nT c179
          refine Run.seq ?_
          refine Run.region ?_
          refine Ops.pure rfl (Pure.assign rfl) ?_
          refine Ops.nil ?_
          refine Run.ret1 rfl rfl ?_
          rfl
        · skip
          replace c179 := nF c179
          obtain ⟨hp1, hp2, hp3, hp4⟩ := pw_back c179
          simp only [hp1]
          refine Run.skip ?_
          refine Run.seq ?_
          refine Run.region ?_
          refine Ops.pure rfl (Pure.ldBA 10 rfl cell35 rfl rfl rfl) ?_
          refine Ops.q rfl (QOp.call fn36 rfl (fun w hw => f_i_PanelNumber w _ _ _ _ (by exact RdL.own 11 rfl w hw) (by omega) (by omega) (by omega) (by omega) (by omega))) ?_
          refine Ops.pure rfl (Pure.move rfl) ?_
          refine Ops.pure rfl (Pure.extract rfl rfl) ?_
          refine Ops.pure rfl (Pure.extract rfl rfl) ?_
          refine Ops.pure rfl (Pure.assign rfl) ?_
          refine Ops.pure rfl (Pure.assign rfl) ?_
          refine Ops.nil ?_
          refine Run.seq ?_
          refine Run.region ?_
          refine Ops.pure rfl (Pure.move rfl) ?_
          refine Ops.pure rfl (Pure.eql rfl rfl) ?_
          refine Ops.pure rfl (Pure.move rfl) ?_
          refine Ops.guardY rfl rfl rfl (decide_eq_true hp3) ?_
          refine Ops.pure rfl (Pure.move rfl) ?_
          refine Ops.guardY rfl rfl rfl (decide_eq_true hp3) ?_
          refine Ops.pure rfl (Pure.move rfl) ?_
          refine Ops.guardY rfl rfl rfl (decide_eq_true hp3) ?_
          refine Ops.pure rfl (Pure.eql rfl rfl) ?_
          refine Ops.pure rfl (Pure.pickT rfl (decide_eq_true hp3) rfl) ?_
          refine Ops.pure rfl (Pure.assign rfl) ?_
          refine Ops.nil ?_
          refine Run.ret1 rfl rfl ?_
          rw [decide_eq_true hp4]
      · skip
        replace c165 := dF c165
        refine Run.skip ?_
        refine Run.seq ?_
        refine Run.seq ?_
        refine Run.region ?_
        refine Ops.pure rfl (Pure.move rfl) ?_
        refine Ops.pure rfl (Pure.neq rfl rfl) ?_
        refine Ops.nil ?_
        refine Run.cond rfl (fun c179 => ?_) (fun c179 => ?_)
        · skip
          replace c179 := nT c179
          refine Run.seq ?_
          refine Run.region ?_
          refine Ops.pure rfl (Pure.assign rfl) ?_
          refine Ops.nil ?_
          refine Run.ret1 rfl rfl ?_
          rfl
        · skip
          replace c179 := nF c179
          obtain ⟨hp1, hp2, hp3, hp4⟩ := pw_back c179
          simp only [hp1]
          refine Run.skip ?_
          refine Run.seq ?_
          refine Run.region ?_
          refine Ops.pure rfl (Pure.ldBA 10 rfl cell35 rfl rfl rfl) ?_
          refine Ops.q rfl (QOp.call fn36 rfl (fun w hw => f_i_PanelNumber w _ _ _ _ (by exact RdL.own 11 rfl w hw) (by omega) (by omega) (by omega) (by omega) (by omega))) ?_
          refine Ops.pure rfl (Pure.move rfl) ?_
          refine Ops.pure rfl (Pure.extract rfl rfl) ?_
          refine Ops.pure rfl (Pure.extract rfl rfl) ?_
          refine Ops.pure rfl (Pure.assign rfl) ?_
          refine Ops.pure rfl (Pure.assign rfl) ?_
          refine Ops.nil ?_
          refine Run.seq ?_
          refine Run.region ?_
          refine Ops.pure rfl (Pure.move rfl) ?_
          refine Ops.pure rfl (Pure.eql rfl rfl) ?_
          refine Ops.pure rfl (Pure.move rfl) ?_
          refine Ops.guardY rfl rfl rfl (decide_eq_true hp3) ?_
          refine Ops.pure rfl (Pure.move rfl) ?_
          refine Ops.guardY rfl rfl rfl (decide_eq_true hp3) ?_
          refine Ops.pure rfl (Pure.move rfl) ?_
          refine Ops.guardY rfl rfl rfl (decide_eq_true hp3) ?_
          refine Ops.pure rfl (Pure.eql rfl rfl) ?_
          refine Ops.pure rfl (Pure.pickT rfl (decide_eq_true hp3) rfl) ?_
          refine Ops.pure rfl (Pure.assign rfl) ?_
          refine Ops.nil ?_
          refine Run.ret1 rfl rfl ?_
          rw [decide_eq_true hp4]
    · skip
      replace c146 := dF c146
      refine Run.skip ?_
      refine Run.seq ?_
      refine Run.seq ?_
      refine Run.region ?_
      refine Ops.pure rfl (Pure.move rfl) ?_
      refine Ops.pure rfl (Pure.eql rfl rfl) ?_
      refine Ops.nil ?_
      refine Run.cond rfl (fun c165 => ?_) (fun c165 => ?_)
      · skip
        replace c165 := dT c165
        obtain ⟨hf1, hf2, hf3⟩ := fw_zero c165
        simp only [hf1]
        refine Run.seq ?_
        refine Run.region ?_
        refine Ops.pure rfl (Pure.ldBA 2 rfl cell35 rfl rfl rfl) ?_
        refine Ops.q rfl (QOp.call fn45 rfl (fun w hw => f_i_CountCurves w _ _ _ _ (by exact RdL.own 3 rfl w hw) (by omega) (by assumption))) ?_
        refine Ops.pure rfl (Pure.move rfl) ?_
        refine Ops.pure rfl (Pure.extract rfl rfl) ?_
        refine Ops.pure rfl (Pure.extract rfl rfl) ?_
        refine Ops.pure rfl (Pure.assign rfl) ?_
        refine Ops.pure rfl (Pure.assign rfl) ?_
        refine Ops.nil ?_
        refine Run.seq ?_
        refine Run.region ?_
        refine Ops.pure rfl (Pure.move rfl) ?_
        refine Ops.pure rfl (Pure.neq rfl rfl) ?_
        refine Ops.pure rfl (Pure.move rfl) ?_
        refine Ops.guardY rfl rfl rfl (by simp) ?_
        refine Ops.pure rfl (Pure.move rfl) ?_
        refine Ops.guardY rfl rfl rfl (by simp) ?_
        refine Ops.pure rfl (Pure.move rfl) ?_
        refine Ops.guardY rfl rfl rfl (by simp) ?_
        refine Ops.pure rfl (Pure.neq rfl rfl) ?_
        refine Ops.pure rfl (Pure.pickF rfl (by simp) rfl) ?_
        refine Ops.nil ?_
        refine Run.condEF rfl (by rw [hf3]; simp) ?_
        refine Run.skip ?_
        refine Run.seq ?_
        refine Run.seq ?_
        refine Run.region ?_
        refine Ops.pure rfl (Pure.move rfl) ?_
        refine Ops.pure rfl (Pure.neq rfl rfl) ?_
        refine Ops.nil ?_
        refine Run.cond rfl (fun c179 => ?_) (fun c179 => ?_)
        · skip
          replace c179 := nT c179
          refine Run.seq ?_
          refine Run.region ?_
          refine Ops.pure rfl (Pure.assign rfl) ?_
          refine Ops.nil ?_
          refine Run.ret1 rfl rfl ?_
          rfl
        · skip
          replace c179 := nF c179
          obtain ⟨hp1, hp2, hp3, hp4⟩ := pw_back c179
          simp only [hp1]
          refine Run.skip ?_
          refine Run.seq ?_
          refine Run.region ?_
          refine Ops.pure rfl (Pure.ldBA 8 rfl cell35 rfl rfl rfl) ?_
          refine Ops.q rfl (QOp.call fn36 rfl (fun w hw => f_i_PanelNumber w _ _ _ _ (by exact RdL.own 9 rfl w hw) (by omega) (by omega) (by omega) (by omega) (by omega))) ?_
          refine Ops.pure rfl (Pure.move rfl) ?_
          refine Ops.pure rfl (Pure.extract rfl rfl) ?_
          refine Ops.pure rfl (Pure.extract rfl rfl) ?_
          refine Ops.pure rfl (Pure.assign rfl) ?_
          refine Ops.pure rfl (Pure.assign rfl) ?_
          refine Ops.nil ?_
          refine Run.seq ?_
          refine Run.region ?_
          refine Ops.pure rfl (Pure.move rfl) ?_
          refine Ops.pure rfl (Pure.eql rfl rfl) ?_
          refine Ops.pure rfl (Pure.move rfl) ?_
          refine Ops.guardY rfl rfl rfl (decide_eq_true hp3) ?_
          refine Ops.pure rfl (Pure.move rfl) ?_
          refine Ops.guardY rfl rfl rfl (decide_eq_true hp3) ?_
          refine Ops.pure rfl (Pure.move rfl) ?_
          refine Ops.guardY rfl rfl rfl (decide_eq_true hp3) ?_
          refine Ops.pure rfl (Pure.eql rfl rfl) ?_
          refine Ops.pure rfl (Pure.pickT rfl (decide_eq_true hp3) rfl) ?_
          refine Ops.pure rfl (Pure.assign rfl) ?_
          refine Ops.nil ?_
          refine Run.ret1 rfl rfl ?_
          rw [decide_eq_true hp4]
      · skip
        replace c165 := dF c165
        refine Run.skip ?_
        refine Run.seq ?_
        refine Run.seq ?_
        refine Run.region ?_
        refine Ops.pure rfl (Pure.move rfl) ?_
        refine Ops.pure rfl (Pure.neq rfl rfl) ?_
        refine Ops.nil ?_
        refine Run.cond rfl (fun c179 => ?_) (fun c179 => ?_)
        · skip
          replace c179 := nT c179
          refine Run.seq ?_
          refine Run.region ?_
          refine Ops.pure rfl (Pure.assign rfl) ?_
          refine Ops.nil ?_
          refine Run.ret1 rfl rfl ?_
          rfl
        · skip
          replace c179 := nF c179
          obtain ⟨hp1, hp2, hp3, hp4⟩ := pw_back c179
          simp only [hp1]
          refine Run.skip ?_
          refine Run.seq ?_
          refine Run.region ?_
          refine Ops.pure rfl (Pure.ldBA 8 rfl cell35 rfl rfl rfl) ?_
          refine Ops.q rfl (QOp.call fn36 rfl (fun w hw => f_i_PanelNumber w _ _ _ _ (by exact RdL.own 9 rfl w hw) (by omega) (by omega) (by omega) (by omega) (by omega))) ?_
          refine Ops.pure rfl (Pure.move rfl) ?_
          refine Ops.pure rfl (Pure.extract rfl rfl) ?_
          refine Ops.pure rfl (Pure.extract rfl rfl) ?_
          refine Ops.pure rfl (Pure.assign rfl) ?_
          refine Ops.pure rfl (Pure.assign rfl) ?_
          refine Ops.nil ?_
          refine Run.seq ?_
          refine Run.region ?_
          refine Ops.pure rfl (Pure.move rfl) ?_
          refine Ops.pure rfl (Pure.eql rfl rfl) ?_
          refine Ops.pure rfl (Pure.move rfl) ?_
          refine Ops.guardY rfl rfl rfl (decide_eq_true hp3) ?_
          refine Ops.pure rfl (Pure.move rfl) ?_
          refine Ops.guardY rfl rfl rfl (decide_eq_true hp3) ?_
          refine Ops.pure rfl (Pure.move rfl) ?_
          refine Ops.guardY rfl rfl rfl (decide_eq_true hp3) ?_
          refine Ops.pure rfl (Pure.eql rfl rfl) ?_
          refine Ops.pure rfl (Pure.pickT rfl (decide_eq_true hp3) rfl) ?_
          refine Ops.pure rfl (Pure.assign rfl) ?_
          refine Ops.nil ?_
          refine Run.ret1 rfl rfl ?_
          rw [decide_eq_true hp4]

end Go.Proofs.Ytmfinopdokkjcaa
