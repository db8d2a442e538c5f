/- Regions that draw their order, with a part of the memory that nothing in the region writes. No statement of the seat is proved here. -/
import Derived.Test.YtmfinopdokkjcaaAwt
namespace Go.AW
open Go Go.RowKit
set_option linter.unusedVariables false
set_option linter.unusedSimpArgs false
section
variable {C : List Ent} {P : Program} {N : Nat} {w0 : World} {R : Exit → Act → World → Prop} {ops : Array Oper} {s : Fr} {L : List Ent} {k : List It}

def anyK (C : List Ent) (P : Program) (w0 : World) (ops : Array Oper) (Q : Act → List Ent → Prop) : Nat → Array Bool → Act → List Ent → Prop
  | 0, listed, a, L => Region.ready .any ops listed = [] ∧ Q a L
  | fuel + 1, listed, a, L =>
    (Region.ready .any ops listed = [] → Q a L) ∧
    ∀ i ∈ Region.ready .any ops listed, opL P w0 ops i (fun a' L' => Ext C L' ∧ anyK C P w0 ops Q fuel (listed.setIfInBounds i true) a' L') a L

theorem wpAny_of_anyK {Q : Act → List Ent → Prop} {Qx : Exit → Act → World → Prop} (hQ : ∀ a L w, Sat w0 w L → Q a L → Qx .normal a w) : ∀ (fuel : Nat) (listed : Array Bool) (a : Act) (L : List Ent) (w : World), Sat w0 w L →
    anyK C P w0 ops Q fuel listed a L → wpAny P .any ops Qx fuel listed a w
  | 0, _, _, _, _, hw, h => ⟨h.1, hQ _ _ _ hw h.2⟩
  | fuel + 1, _, _, _, _, hw, h => ⟨fun h0 => hQ _ _ _ hw (h.1 h0), fun i hi => wp_of_opL hw (h.2 i hi) fun a' L' w' hw' hk => wpAny_of_anyK hQ fuel _ a' L' w' hw' hk.2⟩

/-- The value v, in every memory that fits the part C. -/
def YieldsC (P : Program) (w0 : World) (C : List Ent) (ops : Array Oper) (o : Oper) (v : Value) (a : Act) : Prop :=
  (Region.wanted o (yielded ops a.tmps) = true ∧ ∀ w, Sat w0 w C → Yld P w v ((execOp a.eval o).run P w)) ∨
  (Region.wanted o (yielded ops a.tmps) = false ∧ v = undef)
theorem YieldsC.toL {o : Oper} {v : Value} {a : Act} (h : YieldsC P w0 C ops o v a) (hC : Ext C L) : YieldsL P w0 ops L o v a := by
  rcases h with ⟨h1, h2⟩ | h
  · exact .inl ⟨h1, fun w hw => h2 w (hw.ext hC)⟩
  · exact .inr h
theorem opL_putC {j : Nat} {oi oj : Oper} {v : Value} (hj : ops[j]? = some oj) (hap : oi.apart ops oj = true)
    (hsi : ∀ cs b, oi.op ≠ .select cs b) (hsj : ∀ cs b, oj.op ≠ .select cs b) {K : Act → List Ent → Prop} {a : Act}
    (hy : YieldsC P w0 C ops oi v a) (h : opL P w0 ops j K (a.put oi.dst v) L) :
    opL P w0 ops j (fun a' L' => YieldsC P w0 C ops oi v a' ∧ K (a'.put oi.dst v) L') a L := by
  obtain ⟨h1, h2, h3⟩ := Oper.apart_spec hap
  have keep : ∀ (u : Value), YieldsC P w0 C ops oi v (a.put oj.dst u) := fun u => by
    unfold YieldsC at hy ⊢
    rw [execOp_put oi hsi a oj.dst u h3, wanted_put oi a oj.dst u h3]
    exact hy
  unfold opL at *
  simp only [hj] at *
  rw [wanted_put oj a oi.dst v h1] at h
  by_cases hwa : Region.wanted oj (yielded ops a.tmps) = true
  · rw [if_pos hwa] at h ⊢
    intro w hsw
    have h4 := h w hsw
    rw [execOp_put oj hsj a oi.dst v h1] at h4
    generalize (execOp a.eval oj).run P w = r at h4
    cases r with
    | ok n w' =>
      cases n <;> simp only [uponL] at h4 ⊢
      case value u => obtain ⟨L', h5, h7⟩ := h4; exact ⟨L', h5, keep u, by rw [← Act.put_comm a v u h2]; exact h7⟩
      case skip => obtain ⟨L', h5, h7⟩ := h4; exact ⟨L', h5, keep _, by rw [← Act.put_comm a v undef h2]; exact h7⟩
      case enter f args =>
        refine Calls.mono h4 ?_
        rintro e w'' ⟨u, L', rfl, h5, h7⟩
        exact ⟨u, L', rfl, h5, keep u, by rw [← Act.put_comm a v u h2]; exact h7⟩
    | halt x w' => simp only [uponL] at h4
  · rw [if_neg hwa] at h ⊢
    exact ⟨keep _, by rw [← Act.put_comm a v undef h2]; exact h⟩
theorem anyK_first {Q : Act → List Ent → Prop} {i : Nat} {oi : Oper} {v : Value} (hi : ops[i]? = some oi) (hsel : ∀ (j : Nat) (o : Oper) cs b, ops[j]? = some o → o.op ≠ .select cs b) :
    ∀ (fuel : Nat) (listed : Array Bool) (a : Act) (L : List Ent),
      (∀ j oj, ops[j]? = some oj → j ≠ i → listed.getD j true = false → (∀ e ∈ oj.after, Region.binds .any e = true → e.on ≠ i) → oi.apart ops oj = true) →
      i ∈ Region.ready .any ops listed → Ext C L → YieldsC P w0 C ops oi v a →
      anyK C P w0 ops Q fuel (listed.setIfInBounds i true) (a.put oi.dst v) L → anyK C P w0 ops Q (fuel + 1) listed a L := by
  intro fuel
  induction fuel with
  | zero =>
    intro listed a L _ hr hC hy H
    refine ⟨fun h => (by rw [h] at hr; cases hr), fun j hj => ?_⟩
    by_cases hji : j = i
    · subst hji; exact (hy.toL hC).opL hi ⟨hC, H⟩
    · have := ready_mono hj hji
      rw [H.1] at this
      cases this
  | succ fuel ih =>
    intro listed a L hfree hr hC hy H
    refine ⟨fun h => (by rw [h] at hr; cases hr), fun j hj => ?_⟩
    by_cases hji : j = i
    · subst hji; exact (hy.toL hC).opL hi ⟨hC, H⟩
    · have h1 := H.2 j (ready_mono hj hji)
      obtain ⟨hjun, oj, hoj, hall⟩ := mem_ready.1 hj
      have hnot : ∀ e ∈ oj.after, Region.binds .any e = true → e.on ≠ i := fun e he hb heq => by
        have h1 := hall e he hb
        have h0 := (mem_ready.1 hr).1
        rw [heq] at h1
        rcases Nat.lt_or_ge i listed.size with h' | h'
        · simp [h'] at h0 h1; rw [h0] at h1; cases h1
        · simp [Array.getElem?_eq_none h'] at h1
      have h2 := opL_putC hoj (hfree j oj hoj hji hjun hnot) (fun cs b => hsel i oi cs b hi) (fun cs b => hsel j oj cs b hoj) hy h1
      have hfree' : ∀ m ok, ops[m]? = some ok → m ≠ i → (listed.setIfInBounds j true).getD m true = false →
          (∀ e ∈ ok.after, Region.binds .any e = true → e.on ≠ i) → oi.apart ops ok = true := fun m ok hm hmi hun hno => by
        refine hfree m ok hm hmi ?_ hno
        by_cases hjm : j = m
        · subst hjm; exact hjun
        · rw [getD_set_ne true hjm] at hun; exact hun
      refine opL_mono (fun a' L' h3 => ⟨h3.2.1, ih (listed.setIfInBounds j true) a' L' hfree' (ready_mono hr (Ne.symm hji)) h3.2.1 h3.1 ?_⟩) h2
      rw [Array.setIfInBounds_comm _ _ hji]
      exact h3.2.2

/-- Whatever order is picked from here on, with the frame 's' and the memory 'L', of which the part C stays. -/
def AnyK (C : List Ent) (P : Program) (N : Nat) (w0 : World) (R : Exit → Act → World → Prop) (ops : Array Oper) (fuel : Nat) (listed : Array Bool) (k : List It) (s : Fr) (L : List Ent) : Prop :=
  Ext C L → ∀ a, FrOK N s a → anyK C P w0 ops (fun a' L' => ∃ s', FrOK N s' a' ∧ Run P N w0 R k s' L') fuel listed a L
theorem AnyK.start {id : Nat} {l : List Oper} (C : List Ent) (hm : P.follows .mixedOrders = true) (hC : Ext C L) (h : AnyK C P N w0 R l.toArray l.length (Array.replicate l.length false) k s L) : Run P N w0 R (.code (.region id l.toArray true) :: k) s L := by
  intro a w ha hw
  refine wp_region_any hm ?_
  have h1 := wpAny_of_anyK (Qx := post P N w0 R k) (fun a' L' w' hw' ⟨s', ha', hr⟩ => hr a' w' ha' hw') l.length _ a L { w with drawn := w.drawn + 1 } hw.drew (h hC a ha)
  simpa using h1
theorem AnyK.take {fuel : Nat} {listed : Array Bool} {ty : TypeId} {pos : String} {aft : Array Edge} {dd : Nat} {op : Op} {v : Value} (i : Nat) (hi : ops[i]? = some ⟨some dd, op, ty, pos, aft, none⟩) (ht : take0 ops listed i = true) (hN : Nat.blt dd N = true)
    (hq : QOp P N w0 s C ⟨some dd, op, ty, pos, aft, none⟩ v) (h : AnyK C P N w0 R ops fuel (listed.setIfInBounds i true) k ((dd, v) :: s) L) : AnyK C P N w0 R ops (fuel + 1) listed k s L := by
  intro hC a ha
  obtain ⟨h1, h2, h3⟩ := take0_spec hi ht
  exact anyK_first hi h1 fuel listed a L h3 h2.2 hC (.inl ⟨by simp [Region.wanted], fun w hw => hq a w ha hw⟩) (h hC _ (ha.put hN v))
theorem AnyK.takeY {fuel : Nat} {listed : Array Bool} {ty : TypeId} {pos : String} {aft : Array Edge} {dd j dj : Nat} {want b : Bool} {op : Op} {oj : Oper} {v : Value} (i : Nat) (hi : ops[i]? = some ⟨some dd, op, ty, pos, aft, some (j, want)⟩) (ht : take0 ops listed i = true) (hN : Nat.blt dd N = true)
    (hj : ops[j]? = some oj) (hdj : oj.dst = some dj) (hb : lk s dj = some (.bool b)) (hw : b = want)
    (hq : QOp P N w0 s C ⟨some dd, op, ty, pos, aft, some (j, want)⟩ v) (h : AnyK C P N w0 R ops fuel (listed.setIfInBounds i true) k ((dd, v) :: s) L) : AnyK C P N w0 R ops (fuel + 1) listed k s L := by
  intro hC a ha
  obtain ⟨h1, h2, h3⟩ := take0_spec hi ht
  exact anyK_first hi h1 fuel listed a L h3 h2.2 hC (.inl ⟨by simp [Region.wanted, yielded_of ha hj hdj hb, hw], fun w hw => hq a w ha hw⟩) (h hC _ (ha.put hN v))
theorem AnyK.takeN {fuel : Nat} {listed : Array Bool} {ty : TypeId} {pos : String} {aft : Array Edge} {dd j dj : Nat} {want b : Bool} {op : Op} {oj : Oper} (i : Nat) (hi : ops[i]? = some ⟨some dd, op, ty, pos, aft, some (j, want)⟩) (ht : take0 ops listed i = true) (hN : Nat.blt dd N = true)
    (hj : ops[j]? = some oj) (hdj : oj.dst = some dj) (hb : lk s dj = some (.bool b)) (hw : b ≠ want)
    (h : AnyK C P N w0 R ops fuel (listed.setIfInBounds i true) k ((dd, undef) :: s) L) : AnyK C P N w0 R ops (fuel + 1) listed k s L := by
  intro hC a ha
  obtain ⟨h1, h2, h3⟩ := take0_spec hi ht
  exact anyK_first hi h1 fuel listed a L h3 h2.2 hC (.inr ⟨by simp [Region.wanted, yielded_of ha hj hdj hb, hw], rfl⟩) (h hC _ (ha.put hN undef))
theorem AnyK.takeU {fuel : Nat} {listed : Array Bool} {ty : TypeId} {pos : String} {aft : Array Edge} {dd j dj : Nat} {want : Bool} {op : Op} {oj : Oper} (i : Nat) (hi : ops[i]? = some ⟨some dd, op, ty, pos, aft, some (j, want)⟩) (ht : take0 ops listed i = true) (hN : Nat.blt dd N = true)
    (hj : ops[j]? = some oj) (hdj : oj.dst = some dj) (hb : lk s dj = some undef)
    (h : AnyK C P N w0 R ops fuel (listed.setIfInBounds i true) k ((dd, undef) :: s) L) : AnyK C P N w0 R ops (fuel + 1) listed k s L := by
  intro hC a ha
  obtain ⟨h1, h2, h3⟩ := take0_spec hi ht
  exact anyK_first hi h1 fuel listed a L h3 h2.2 hC (.inr ⟨by simp [Region.wanted, yielded_undef (R := R) ha hj hdj hb], rfl⟩) (h hC _ (ha.put hN undef))
theorem AnyK.splitG {fuel : Nat} {listed : Array Bool} {b : Bool} (n : Nat) (_h : lk s n = some (.bool b)) (ht : b = true → AnyK C P N w0 R ops fuel listed k s L) (hf : b = false → AnyK C P N w0 R ops fuel listed k s L) : AnyK C P N w0 R ops fuel listed k s L := by
  cases b with
  | true => exact ht rfl
  | false => exact hf rfl

def OneK (C : List Ent) (P : Program) (N : Nat) (w0 : World) (R : Exit → Act → World → Prop) (ops : Array Oper) (fuel : Nat) (listed : Array Bool) (k : List It) (s : Fr) (L : List Ent) (i : Nat) : Prop :=
  Ext C L → ∀ a, FrOK N s a → opL P w0 ops i (fun a' L' => Ext C L' ∧ anyK C P w0 ops (fun a' L' => ∃ s', FrOK N s' a' ∧ Run P N w0 R k s' L') fuel (listed.setIfInBounds i true) a' L') a L
theorem AnyK.one {fuel : Nat} {listed : Array Bool} (i : Nat) (hr : Region.ready .any ops listed = [i]) (h : OneK C P N w0 R ops fuel listed k s L i) : AnyK C P N w0 R ops (fuel + 1) listed k s L :=
  fun hC a ha => ⟨fun h0 => (by rw [hr] at h0; cases h0), fun j hj => by
    rw [hr] at hj
    have e : j = i := by simpa using hj
    subst e
    exact h hC a ha⟩
theorem AnyK.two {fuel : Nat} {listed : Array Bool} (i j : Nat) (hr : Region.ready .any ops listed = [i, j]) (h : OneK C P N w0 R ops fuel listed k s L i) (h' : OneK C P N w0 R ops fuel listed k s L j) : AnyK C P N w0 R ops (fuel + 1) listed k s L :=
  fun hC a ha => ⟨fun h0 => (by rw [hr] at h0; cases h0), fun m hm => by
    rw [hr] at hm
    rcases List.mem_cons.1 hm with e | hm
    · subst e; exact h hC a ha
    · have e : m = j := by simpa using hm
      subst e
      exact h' hC a ha⟩
theorem AnyK.three {fuel : Nat} {listed : Array Bool} (i j l : Nat) (hr : Region.ready .any ops listed = [i, j, l]) (h : OneK C P N w0 R ops fuel listed k s L i) (h' : OneK C P N w0 R ops fuel listed k s L j) (h'' : OneK C P N w0 R ops fuel listed k s L l) : AnyK C P N w0 R ops (fuel + 1) listed k s L :=
  fun hC a ha => ⟨fun h0 => (by rw [hr] at h0; cases h0), fun m hm => by
    rw [hr] at hm
    rcases List.mem_cons.1 hm with e | hm
    · subst e; exact h hC a ha
    · rcases List.mem_cons.1 hm with e | hm
      · subst e; exact h' hC a ha
      · have e : m = l := by simpa using hm
        subst e
        exact h'' hC a ha⟩
theorem OneK.loud {fuel : Nat} {listed : Array Bool} {ty : TypeId} {pos : String} {aft : Array Edge} {dd i : Nat} {op : Op} {Q : Value → List Ent → Prop} (hi : ops[i]? = some ⟨some dd, op, ty, pos, aft, none⟩) (hN : Nat.blt dd N = true)
    (hp : Loud P N w0 s L ⟨some dd, op, ty, pos, aft, none⟩ Q) (h : ∀ v L', Q v L' → Ext C L' ∧ AnyK C P N w0 R ops fuel (listed.setIfInBounds i true) k ((dd, v) :: s) L') : OneK C P N w0 R ops fuel listed k s L i := by
  intro hC a ha
  unfold opL
  rw [hi]
  simp only []
  rw [if_pos (by simp [Region.wanted])]
  intro w hw
  have h1 := hp a w ha hw
  generalize (execOp a.eval _).run P w = r at h1
  cases r with
  | ok n w' =>
    cases n <;> simp only [uponQ] at h1
    case value v => obtain ⟨L', h2, h3⟩ := h1; exact ⟨L', h2, (h v L' h3).1, (h v L' h3).2 (h v L' h3).1 _ (ha.put hN v)⟩
    case enter f args =>
      refine Calls.mono h1 ?_
      rintro e w'' ⟨v, L', rfl, h2, h3⟩
      exact ⟨v, L', rfl, h2, (h v L' h3).1, (h v L' h3).2 (h v L' h3).1 _ (ha.put hN v)⟩
  | halt x w' => simp only [uponQ] at h1
theorem OneK.loudY {fuel : Nat} {listed : Array Bool} {ty : TypeId} {pos : String} {aft : Array Edge} {dd i j dj : Nat} {want b : Bool} {op : Op} {oj : Oper} {Q : Value → List Ent → Prop} (hi : ops[i]? = some ⟨some dd, op, ty, pos, aft, some (j, want)⟩) (hN : Nat.blt dd N = true) (hj : ops[j]? = some oj) (hdj : oj.dst = some dj) (hb : lk s dj = some (.bool b)) (hbw : b = want)
    (hp : Loud P N w0 s L ⟨some dd, op, ty, pos, aft, some (j, want)⟩ Q) (h : ∀ v L', Q v L' → Ext C L' ∧ AnyK C P N w0 R ops fuel (listed.setIfInBounds i true) k ((dd, v) :: s) L') : OneK C P N w0 R ops fuel listed k s L i := by
  intro hC a ha
  unfold opL
  rw [hi]
  simp only []
  rw [if_pos (by simp [Region.wanted, yielded_of ha hj hdj hb, hbw])]
  intro w hw
  have h1 := hp a w ha hw
  generalize (execOp a.eval _).run P w = r at h1
  cases r with
  | ok n w' =>
    cases n <;> simp only [uponQ] at h1
    case value v => obtain ⟨L', h2, h3⟩ := h1; exact ⟨L', h2, (h v L' h3).1, (h v L' h3).2 (h v L' h3).1 _ (ha.put hN v)⟩
    case enter f args =>
      refine Calls.mono h1 ?_
      rintro e w'' ⟨v, L', rfl, h2, h3⟩
      exact ⟨v, L', rfl, h2, (h v L' h3).1, (h v L' h3).2 (h v L' h3).1 _ (ha.put hN v)⟩
  | halt x w' => simp only [uponQ] at h1
theorem OneK.q {fuel : Nat} {listed : Array Bool} {ty : TypeId} {pos : String} {aft : Array Edge} {dd i : Nat} {op : Op} {v : Value} (hi : ops[i]? = some ⟨some dd, op, ty, pos, aft, none⟩) (hN : Nat.blt dd N = true)
    (hp : QOp P N w0 s L ⟨some dd, op, ty, pos, aft, none⟩ v) (h : AnyK C P N w0 R ops fuel (listed.setIfInBounds i true) k ((dd, v) :: s) L) : OneK C P N w0 R ops fuel listed k s L i := fun hC =>
  OneK.loud hi hN hp.loud (by rintro _ _ ⟨rfl, rfl⟩; exact ⟨hC, h⟩) hC
theorem OneK.store {fuel : Nat} {listed : Array Bool} {ty : TypeId} {pos : String} {aft : Array Edge} {i : Nat} {op : Op} {L' : List Ent} (hi : ops[i]? = some ⟨none, op, ty, pos, aft, none⟩)
    (hp : Stores P N w0 s L ⟨none, op, ty, pos, aft, none⟩ L') (hs : Ext C L') (h : AnyK C P N w0 R ops fuel (listed.setIfInBounds i true) k s L') : OneK C P N w0 R ops fuel listed k s L i := by
  intro hC a ha
  unfold opL
  rw [hi]
  simp only []
  rw [if_pos (by simp [Region.wanted])]
  intro w hw
  obtain ⟨w', hr, hw'⟩ := hp a w ha hw
  rw [hr]
  exact ⟨L', hw', hs, h hs _ ha⟩
theorem AnyK.done {fuel : Nat} {listed : Array Bool} (hr : Region.ready .any ops listed = []) (h : Run P N w0 R k s L) : AnyK C P N w0 R ops fuel listed k s L := by
  intro hC a ha
  cases fuel with
  | zero => exact ⟨hr, s, ha, h⟩
  | succ n => exact ⟨fun _ => ⟨s, ha, h⟩, fun i hi => by rw [hr] at hi; cases hi⟩
end

/-! ### Entries in any order -/

theorem Ext.skipc' {A L : List Ent} {e : Ent} (h : Ext A L) : Ext A (e :: L) := by
  obtain ⟨r, hr⟩ := h
  exact ⟨e :: r, List.perm_middle.trans (List.Perm.cons e hr)⟩
theorem Ext.skipa' {A B L : List Ent} (h : Ext A L) : Ext A (B ++ L) := Ext.trans h (Ext.right _ _)
theorem Ext.both {A L : List Ent} {e : Ent} (h : Ext A L) : Ext (e :: A) (e :: L) := by
  obtain ⟨r, hr⟩ := h
  exact ⟨r, List.Perm.cons e hr⟩
theorem Sat.move {w0 w : World} {A B F : List Ent} (hw : Sat w0 w (A ++ (B ++ F))) : Sat w0 w (B ++ (A ++ F)) := hw.perm (by rw [← List.append_assoc, ← List.append_assoc]; exact List.perm_append_comm.append_right F)
theorem RdL.ext {w0 : World} {L L' : List Ent} {v : Value} {sz n : Nat} {xs : List Value} (h : RdL w0 L v sz n xs) (he : Ext L L') : RdL w0 L' v sz n xs := fun w hw => h w (hw.ext he)
/-- A row is made shorter. -/
theorem subS_own {base : Nat} {w : World} {t size : Nat} {v : Value} {n m : Nat} {xs : List Value} (h : w.ownsRow base t size v n xs) (hm : m ≤ n) : w.ownsRow base t size (subS v size 0 m) m (xs.take (m * size)) ∧ (subS v size 0 m).ownBlock = v.ownBlock := by
  obtain ⟨h1, h2⟩ := h
  have hmn : m * size ≤ n * size := Nat.mul_le_mul_right _ hm
  rcases h2 with ⟨rfl, rfl⟩ | ⟨g, cap, cur, rfl, h4, h5, h6, h7, h8, h9⟩
  · obtain rfl : m = 0 := by omega
    exact ⟨⟨by rw [List.length_take]; omega, .inl ⟨rfl, rfl⟩⟩, rfl⟩
  · have e : subS (.slice (some ⟨g, 0, none⟩) n cap) size 0 m = .slice (some ⟨g, 0, none⟩) m cap := by
      simp [subS, sliced, Addr.add]
    rw [e]
    refine ⟨⟨by rw [List.length_take]; omega, .inr ⟨g, cap, cur, rfl, h4, h5, by omega, h7, h8, ?_⟩⟩, rfl⟩
    rw [← h9, List.take_take, Nat.min_eq_left hmn]
theorem Sat.shortAt {w0 w : World} {L : List Ent} {t size n m : Nat} {v : Value} {xs : List Value} (i : Nat) (hL : L[i]? = some (.row t size v n xs)) (hm : m ≤ n) (hw : Sat w0 w L) : Sat w0 w (L.set i (.row t size (subS v size 0 m) m (xs.take (m * size)))) := by
  have hown : w.ownsRow w0.heap.size t size v n xs := hw.own _ (List.mem_of_getElem? hL)
  obtain ⟨h1, h2⟩ := subS_own hown hm
  exact hw.set hL ⟨rfl, rfl, rfl, Nat.le_refl _, fun _ _ _ => rfl⟩ (e' := .row t size (subS v size 0 m) m (xs.take (m * size))) h1 (.inl h2)
theorem Run.short {P : Program} {N : Nat} {w0 : World} {R : Exit → Act → World → Prop} {k : List It} {s : Fr} {L : List Ent} {t size n m : Nat} {v : Value} {xs : List Value} (i : Nat) (hL : L[i]? = some (.row t size v n xs)) (hm : m ≤ n) (h : Run P N w0 R k s (L.set i (.row t size (subS v size 0 m) m (xs.take (m * size))))) : Run P N w0 R k s L :=
  fun a w ha hw => h a w ha (hw.shortAt i hL hm)
/-- The front of a box, read as one element. -/
theorem RdL.boxP {w0 : World} {L : List Ent} {b t m : Nat} {cs xs : List Value} (i : Nat) (h : L[i]? = some (.box b t cs)) (hx : cs.take m = xs) (hm : xs.length = m) : RdL w0 L (boxS b) m 1 xs := fun w hw => by
  refine ⟨by omega, _, _, rfl, Nat.le_refl _, fun _ => ⟨_, rfl, fun j u hu => ?_⟩⟩
  rw [add_lit, cell_of_row w b (0 + j) _ t (0, 0) (hw.box h)]
  rw [← hx, List.getElem?_take] at hu
  split at hu
  · simpa using hu
  · cases hu
end Go.AW
