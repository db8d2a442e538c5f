/- A small calculus of abstract states over the guide's weakest preconditions: frames as lists of slots, memory as lists of owned rows. No statement of the seat is proved here. -/
import Derived.WalkKit
import Derived.WalkSpells
import Derived.WalkLawsBesides
import Derived.Maps.AppendAt
import Derived.Deep.Quiet
import Derived.Deep.LoopGhost
import Derived.MapKept
namespace Go.AW
open Go Go.RowKit
set_option linter.unusedVariables false
set_option linter.unusedSimpArgs false

/-! ### Frames -/

abbrev Fr := List (Nat × Value)

def lk : Fr → Nat → Option Value
  | [], _ => none
  | (m, v) :: r, n => bif Nat.beq m n then some v else lk r n

def ev (s : Fr) : Operand → Option Value
  | .tmp t => lk s t
  | .const v => some v
  | .global g => some (.pointer (some ⟨g, 0, none⟩))
  | .func f => some (.func (.func f) #[] #[])

/-- The act 'a' has N slots, no deferred calls, and holds what the frame 's' says. -/
structure FrOK (N : Nat) (s : Fr) (a : Act) : Prop where
  size : a.tmps.size = N
  defers : a.defers = []
  slot : ∀ n v, lk s n = some v → a.tmps.getD n undef = v

theorem FrOK.slotG {N : Nat} {s : Fr} {a : Act} (h : FrOK N s a) (n : Nat) (v : Value) (hv : lk s n = some v) : a.tmps[n]?.getD undef = v := by
  rw [← Array.getD_eq_getD_getElem?]
  exact h.slot n v hv

theorem FrOK.ev {N : Nat} {s : Fr} {a : Act} (h : FrOK N s a) {x : Operand} {v : Value} (hx : AW.ev s x = some v) : a.eval x = v := by
  cases x with
  | tmp t => exact h.slot t v hx
  | const c => exact Option.some.inj hx
  | global g => exact Option.some.inj hx
  | func f => exact Option.some.inj hx

theorem FrOK.put {N : Nat} {s : Fr} {a : Act} (h : FrOK N s a) {d : Nat} (hd : Nat.blt d N = true) (v : Value) : FrOK N ((d, v) :: s) (a.put (some d) v) := by
  have hlt : d < a.tmps.size := by rw [h.size]; rw [← Nat.blt_eq]; exact hd
  refine ⟨by simp [Act.put, h.size], h.defers, fun n u hu => ?_⟩
  simp only [lk] at hu
  by_cases e : d = n
  · subst e
    rw [Nat.beq_refl] at hu
    have hu' : v = u := Option.some.inj hu
    subst hu'
    simp [Act.put, hlt]
  · have hb : Nat.beq d n = false := by
      cases hh : Nat.beq d n with
      | false => rfl
      | true => exact absurd (Nat.eq_of_beq_eq_true hh) e
    rw [hb] at hu
    have := h.slot n u hu
    simp only [Act.put, Array.getD_eq_getD_getElem?] at this ⊢
    rw [Array.getElem?_setIfInBounds_ne e]
    exact this

theorem FrOK.none {N : Nat} {s : Fr} {a : Act} (h : FrOK N s a) (v : Value) : FrOK N s (a.put none v) := h

/-- Every slot of the list 't' is held by 's' just so. -/
def Sub : Fr → Fr → Prop
  | [], _ => True
  | (n, v) :: r, s => lk s n = some v ∧ Sub r s

theorem Sub.lk {t s : Fr} (h : Sub t s) : ∀ n v, AW.lk t n = some v → AW.lk s n = some v := by
  induction t with
  | nil => intro n v hv; cases hv
  | cons p r ih =>
    obtain ⟨m, u⟩ := p
    intro n v hv
    simp only [AW.lk] at hv
    cases hb : Nat.beq m n with
    | true =>
      rw [hb] at hv
      have e : u = v := Option.some.inj hv
      subst e
      have hmn : m = n := Nat.eq_of_beq_eq_true hb
      subst hmn
      exact h.1
    | false =>
      rw [hb] at hv
      exact ih h.2 n v hv

theorem FrOK.sub {N : Nat} {s t : Fr} {a : Act} (h : FrOK N s a) (hs : Sub t s) : FrOK N t a :=
  ⟨h.size, h.defers, fun n v hv => h.slot n v (hs.lk n v hv)⟩

/-! ### Memory -/

/-- What the call owns: a row (a slice of its own, as the guide's 'ownsRow' has it) or a box (a block known whole). -/
inductive Ent where
  | row (t size : Nat) (v : Value) (n : Nat) (xs : List Value)
  | box (b : Nat) (t : Nat) (cs : List Value)
  | mp (b : Nat) (d : TypeDesc) (ks : List Value)

def Ent.blk : Ent → Option Nat
  | .row _ _ v _ _ => v.ownBlock
  | .box b _ _ => some b
  | .mp b _ _ => some b

def Ent.holds (base : Nat) (w : World) : Ent → Prop
  | .row t size v n xs => w.ownsRow base t size v n xs
  | .box b t cs => base ≤ b ∧ w.heap[b]? = some (.cells cs.toArray t (0, 0))
  | .mp b d ks => base ≤ b ∧ ∃ es clock, w.heap[b]? = some (.map es clock) ∧ (∀ x ∈ es.toList, MapKept.IsKey d x.key ∧ x.val = .bool true) ∧ es.toList.map (fun x => x.key) = ks

/-- From the world 'w0' on, nothing that was there has turned, and the call owns just 'L', each entry in a block of its own. -/
structure Sat (w0 w : World) (L : List Ent) : Prop where
  below : Below w0.heap.size w0 w
  own : ∀ e, e ∈ L → e.holds w0.heap.size w
  apart : L.Pairwise fun e f => e.blk = none ∨ e.blk ≠ f.blk

theorem Ent.blk_lt {base : Nat} {w : World} {e : Ent} (h : e.holds base w) : ∀ b, e.blk = some b → base ≤ b ∧ b < w.heap.size := by
  cases e with
  | row t size v n xs => exact World.ownsRow.lt h
  | box b t cs =>
    intro b' hb
    have e : b = b' := Option.some.inj hb
    subst e
    exact ⟨h.1, (Array.getElem?_eq_some_iff.1 h.2).1⟩
  | mp b d ks =>
    intro b' hb
    have e : b = b' := Option.some.inj hb
    subst e
    obtain ⟨es, clock, h2, _⟩ := h.2
    exact ⟨h.1, (Array.getElem?_eq_some_iff.1 h2).1⟩

/-- An entry is kept where its own block is. -/
theorem Ent.holds.keep {base : Nat} {w w' : World} {e : Ent} (h : e.holds base w) (hb : ∀ b, e.blk = some b → w'.heap[b]? = w.heap[b]?) : e.holds base w' := by
  cases e with
  | row t size v n xs =>
    refine ⟨h.1, ?_⟩
    rcases h.2 with h2 | ⟨g, cap, cur, hv, hg, hh, r⟩
    · exact .inl h2
    · refine .inr ⟨g, cap, cur, hv, hg, ?_, r⟩
      rw [hb g (by simp [Ent.blk, hv, Value.ownBlock])]
      exact hh
  | box b t cs => exact ⟨h.1, by rw [hb b rfl]; exact h.2⟩
  | mp b d ks => exact ⟨h.1, by rw [hb b rfl]; exact h.2⟩

theorem Ent.holds.mono {base base' : Nat} {w : World} {e : Ent} (h : e.holds base w) (hb : base' ≤ base) : e.holds base' w := by
  cases e with
  | row t size v n xs =>
    refine ⟨h.1, ?_⟩
    rcases h.2 with h2 | ⟨g, cap, cur, hv, hg, r⟩
    · exact .inl h2
    · exact .inr ⟨g, cap, cur, hv, Nat.le_trans hb hg, r⟩
  | box b t cs => exact ⟨Nat.le_trans hb h.1, h.2⟩
  | mp b d ks => exact ⟨Nat.le_trans hb h.1, h.2⟩

theorem Sat.refl (w : World) : Sat w w [] := ⟨Below.refl _ _, by simp, List.Pairwise.nil⟩

theorem Sat.size {w0 w : World} {L : List Ent} (h : Sat w0 w L) : w0.heap.size ≤ w.heap.size := h.below.size

/-- A call's own results on top of what the caller owns. -/
theorem Sat.trans {w0 w w' : World} {L L' : List Ent} (h : Sat w0 w L) (h' : Sat w w' L') : Sat w0 w' (L' ++ L) := by
  refine ⟨h.below.trans (h'.below.mono h.size), fun e he => ?_, ?_⟩
  · rcases List.mem_append.1 he with he | he
    · exact (h'.own e he).mono h.size
    · exact (h.own e he).keep fun b hb => h'.below.block b (Ent.blk_lt (h.own e he) b hb).2
  · refine List.pairwise_append.2 ⟨h'.apart, h.apart, fun e he f hf => ?_⟩
    cases hb : e.blk with
    | none => exact .inl rfl
    | some b =>
      refine .inr fun hc => ?_
      have h1 := (Ent.blk_lt (h'.own e he) b hb).1
      have h2 := (Ent.blk_lt (h.own f hf) b hc.symm).2
      omega

theorem Sat.drew {w0 w : World} {L : List Ent} (h : Sat w0 w L) : Sat w0 { w with drawn := w.drawn + 1 } L :=
  ⟨h.below.drew, fun e he => (h.own e he).keep fun _ _ => rfl, h.apart⟩

theorem apart_symm {e f : Ent} (h : e.blk = none ∨ e.blk ≠ f.blk) : f.blk = none ∨ f.blk ≠ e.blk := by
  rcases h with h | h
  · cases hf : f.blk with
    | none => exact .inl rfl
    | some b => exact .inr (by rw [h]; simp)
  · cases hf : f.blk with
    | none => exact .inl rfl
    | some b => exact .inr (fun e' => h (by rw [← e', hf]))

theorem Sat.perm {w0 w : World} {L L' : List Ent} (h : Sat w0 w L) (hp : L.Perm L') : Sat w0 w L' :=
  ⟨h.below, fun e he => h.own e (hp.mem_iff.2 he), hp.pairwise h.apart (fun hr => apart_symm hr)⟩

theorem Sat.sublist {w0 w : World} {L L' : List Ent} (h : Sat w0 w L) (hs : L'.Sublist L) : Sat w0 w L' :=
  ⟨h.below, fun e he => h.own e (hs.subset he), h.apart.sublist hs⟩

/-- Entries may be forgotten and put in another order. -/
def Ext (L' L : List Ent) : Prop := ∃ R, (L' ++ R).Perm L

theorem Sat.ext {w0 w : World} {L L' : List Ent} (h : Sat w0 w L) (he : Ext L' L) : Sat w0 w L' := by
  obtain ⟨R, hp⟩ := he
  exact (h.perm hp.symm).sublist (List.sublist_append_left L' R)

theorem Ext.refl (L : List Ent) : Ext L L := ⟨[], by simp⟩
theorem Ext.nil (L : List Ent) : Ext [] L := ⟨L, by simp⟩
theorem Ext.trans {A B C : List Ent} (h : Ext A B) (k : Ext B C) : Ext A C := by
  obtain ⟨R, hp⟩ := h
  obtain ⟨S, hq⟩ := k
  exact ⟨R ++ S, by rw [← List.append_assoc]; exact (hp.append_right S).trans hq⟩

theorem perm_eraseIdx {α : Type} : ∀ (L : List α) (i : Nat) (e : α), L[i]? = some e → (e :: L.eraseIdx i).Perm L
  | [], i, e, h => by simp at h
  | x :: L, 0, e, h => by
    simp at h
    subst h
    exact List.Perm.refl _
  | x :: L, i + 1, e, h => by
    simp only [List.getElem?_cons_succ] at h
    rw [List.eraseIdx_cons_succ]
    exact (List.Perm.swap x e _).trans ((perm_eraseIdx L i e h).cons x)

/-- Take entry i out of L for the head; go on with the rest. -/
theorem Ext.take {L' L : List Ent} {e : Ent} (i : Nat) (h : L[i]? = some e) (r : Ext L' (L.eraseIdx i)) : Ext (e :: L') L := by
  obtain ⟨R, hp⟩ := r
  exact ⟨R, (hp.cons e).trans (perm_eraseIdx L i e h)⟩
theorem Ext.left (L' L : List Ent) : Ext L' (L' ++ L) := ⟨L, List.Perm.refl _⟩
theorem Ext.right (L' L : List Ent) : Ext L (L' ++ L) := ⟨L', List.perm_append_comm⟩

/-! ### Control -/

/-- What is still to come: a code, the end of a block, an assertion. -/
inductive It where
  | code (c : Code)
  | blk (id : Nat)
  | asrt (Q : Fr → List Ent → Prop)

def post (P : Program) (N : Nat) (w0 : World) (R : Exit → Act → World → Prop) : List It → Exit → Act → World → Prop
  | [] => R
  | .code c :: k => Exit.then (fun a w => c.wp P (post P N w0 R k) a w) (post P N w0 R k)
  | .blk id :: k => Exit.inBlock id (post P N w0 R k)
  | .asrt Q :: k => Exit.then (fun a w => ∃ s L, FrOK N s a ∧ Sat w0 w L ∧ Q s L) (post P N w0 R k)

def Run (P : Program) (N : Nat) (w0 : World) (R : Exit → Act → World → Prop) (k : List It) (s : Fr) (L : List Ent) : Prop :=
  ∀ a w, FrOK N s a → Sat w0 w L → post P N w0 R k .normal a w

def Ops (P : Program) (N : Nat) (w0 : World) (R : Exit → Act → World → Prop) (all : Array Oper) (ops : List Oper) (k : List It) (s : Fr) (L : List Ent) : Prop :=
  ∀ a w, FrOK N s a → Sat w0 w L → wpList P all (post P N w0 R k) ops a w

section
variable {P : Program} {N : Nat} {w0 : World} {R : Exit → Act → World → Prop} {k : List It} {s : Fr} {L : List Ent}

theorem Run.sub {t : Fr} {L' : List Ent} (hs : Sub t s) (hL : Ext L' L) (h : Run P N w0 R k t L') : Run P N w0 R k s L :=
  fun a w ha hw => h a w (ha.sub hs) (hw.ext hL)

theorem Run.seq {x y : Code} (h : Run P N w0 R (.code x :: .code y :: k) s L) : Run P N w0 R (.code (.seq x y) :: k) s L :=
  fun a w ha hw => wp_seq (h a w ha hw)
theorem Run.skip (h : Run P N w0 R k s L) : Run P N w0 R (.code .skip :: k) s L := fun a w ha hw => wp_skip (h a w ha hw)
theorem Run.block {id : Nat} {c : Code} (h : Run P N w0 R (.code c :: .blk id :: k) s L) : Run P N w0 R (.code (.block id c) :: k) s L :=
  fun a w ha hw => wp_block (h a w ha hw)
theorem Run.blk {id : Nat} (h : Run P N w0 R k s L) : Run P N w0 R (.blk id :: k) s L := fun a w ha hw => h a w ha hw
theorem Run.asrt {Q : Fr → List Ent → Prop} (h : Q s L) : Run P N w0 R (.asrt Q :: k) s L := fun _ _ ha hw => ⟨s, L, ha, hw, h⟩
theorem Run.cond {c : Operand} {x y : Code} {b : Bool} (hc : ev s c = some (.bool b)) (ht : b = true → Run P N w0 R (.code x :: k) s L) (hf : b = false → Run P N w0 R (.code y :: k) s L) :
    Run P N w0 R (.code (.cond c x y) :: k) s L :=
  fun a w ha hw => wp_cond_split (ha.ev hc) (fun h => ht h a w ha hw) (fun h => hf h a w ha hw)
theorem Run.condD {c : Operand} {x y : Code} {p : Prop} [Decidable p] (hc : ev s c = some (.bool (decide p))) (ht : p → Run P N w0 R (.code x :: k) s L) (hf : ¬ p → Run P N w0 R (.code y :: k) s L) :
    Run P N w0 R (.code (.cond c x y) :: k) s L :=
  Run.cond hc (fun h => ht (of_decide_eq_true h)) (fun h => hf (of_decide_eq_false h))
theorem Run.condN {c : Operand} {x y : Code} {p : Prop} [Decidable p] (hc : ev s c = some (.bool (!decide p))) (ht : ¬ p → Run P N w0 R (.code x :: k) s L) (hf : p → Run P N w0 R (.code y :: k) s L) :
    Run P N w0 R (.code (.cond c x y) :: k) s L :=
  Run.cond hc (fun h => ht (of_decide_eq_false (by simpa using h))) (fun h => hf (of_decide_eq_true (by simpa using h)))
theorem Run.condB {c : Operand} {x y : Code} {b : Bool} (hc : ev s c = some (.bool (!b))) (ht : b = false → Run P N w0 R (.code x :: k) s L) (hf : b = true → Run P N w0 R (.code y :: k) s L) :
    Run P N w0 R (.code (.cond c x y) :: k) s L :=
  Run.cond hc (fun h => ht (by simpa using h)) (fun h => hf (by simpa using h))
theorem Run.condT {c : Operand} {x y : Code} (hc : ev s c = some (.bool true)) (ht : Run P N w0 R (.code x :: k) s L) : Run P N w0 R (.code (.cond c x y) :: k) s L :=
  Run.cond hc (fun _ => ht) (fun h => nomatch h)
theorem Run.condF {c : Operand} {x y : Code} (hc : ev s c = some (.bool false)) (hf : Run P N w0 R (.code y :: k) s L) : Run P N w0 R (.code (.cond c x y) :: k) s L :=
  Run.cond hc (fun h => nomatch h) (fun _ => hf)

def pop (id : Nat) : List It → Option (List It)
  | [] => none
  | .blk j :: k => bif Nat.beq id j then some k else pop id k
  | _ :: k => pop id k

theorem post_exit (id : Nat) : ∀ (k k' : List It), pop id k = some k' → ∀ a w, post P N w0 R k' .normal a w → post P N w0 R k (.exit id) a w
  | [], k', h, _, _, _ => by cases h
  | .blk j :: k, k', h, a, w, hq => by
    simp only [pop] at h
    by_cases e : id = j
    · subst e
      rw [Nat.beq_refl] at h
      have h' : k = k' := Option.some.inj h
      subst h'
      simpa [post, Exit.inBlock] using hq
    · have hb : Nat.beq id j = false := by
        cases hh : Nat.beq id j with
        | false => rfl
        | true => exact absurd (Nat.eq_of_beq_eq_true hh) e
      rw [hb] at h
      simp only [post, Exit.inBlock, e, if_false]
      exact post_exit id k k' h a w hq
  | .code c :: k, k', h, a, w, hq => post_exit id k k' h a w hq
  | .asrt Q :: k, k', h, a, w, hq => post_exit id k k' h a w hq

theorem Run.exit {id : Nat} {k' : List It} (hp : pop id k = some k') (h : Run P N w0 R k' s L) : Run P N w0 R (.code (.exit id) :: k) s L :=
  fun a w ha hw => wp_exit (post_exit id k k' hp a w (h a w ha hw))

theorem post_ret : ∀ (k : List It) a w, R .ret a w → post P N w0 R k .ret a w
  | [], _, _, h => h
  | .blk _ :: k, a, w, h => post_ret k a w h
  | .code _ :: k, a, w, h => post_ret k a w h
  | .asrt _ :: k, a, w, h => post_ret k a w h

theorem Run.ret (h : ∀ a w, FrOK N s a → Sat w0 w L → R .ret a w) : Run P N w0 R (.code .ret :: k) s L :=
  fun a w ha hw => wp_ret (post_ret k a w (h a w ha hw))

theorem Run.loop {X : Type} {c : Code} (fr : X → Fr) (hp : X → List Ent) (inv : X → Prop) (μ : X → Nat) (x0 : X) (h0 : inv x0) (hs : Sub (fr x0) s) (hL : Ext (hp x0) L)
    (round : ∀ x, inv x → Run P N w0 R (.code c :: .asrt (fun s' L' => ∃ x', (inv x' ∧ μ x' < μ x) ∧ Sub (fr x') s' ∧ Ext (hp x') L') :: k) (fr x) (hp x)) :
    Run P N w0 R (.code (.loop c) :: k) s L := by
  intro a w ha hw
  refine wp_loop_ghost (fun n a w => ∃ x, μ x = n ∧ inv x ∧ FrOK N (fr x) a ∧ Sat w0 w (hp x)) (μ x0) ⟨x0, rfl, h0, ha.sub hs, hw.ext hL⟩ ?_
  rintro n a w ⟨x, rfl, hx, ha, hw⟩
  refine wp_mono (round x hx a w ha hw) fun e a' w' hq => ?_
  cases e with
  | normal =>
    obtain ⟨s', L', ha', hw', x', ⟨hx', hlt⟩, hs', hL'⟩ := hq
    exact ⟨μ x', hlt, x', rfl, hx', ha'.sub hs', hw'.ext hL'⟩
  | exit id => exact hq
  | goto l => exact hq
  | ret => exact hq
  | panic ch => exact hq
  | outgrown => exact hq
end

/-! ### Reading -/

/-- In the world 'w' the slice 'v' has n elements of 'size' cells, which read as 'xs'. -/
def Rd (w : World) (v : Value) (size n : Nat) (xs : List Value) : Prop :=
  xs.length = n * size ∧ ∃ A c, v = .slice A n c ∧ n ≤ c ∧ (0 < xs.length → ∃ a, A = some a ∧ ∀ j u, xs[j]? = some u → w.cell? (a.add j) = some u)

def RdL (w0 : World) (L : List Ent) (v : Value) (size n : Nat) (xs : List Value) : Prop := ∀ w, Sat w0 w L → Rd w v size n xs

theorem block_of_add (a : Addr) (n : Nat) : (a.add n).block = a.block := by unfold Addr.add; split <;> rfl
theorem add_add (a : Addr) (i j : Nat) : (a.add i).add j = a.add (i + j) := by
  unfold Addr.add
  by_cases hi : i = 0 <;> by_cases hj : j = 0 <;> simp [hi, hj, Nat.add_assoc]
theorem add_lit (g o n : Nat) : (⟨g, o, none⟩ : Addr).add n = ⟨g, o + n, none⟩ := by
  unfold Addr.add
  by_cases h : n = 0 <;> simp [h]

theorem Rd.below {w w' : World} {v : Value} {size n : Nat} {xs : List Value} (h : Rd w v size n xs) (hb : Below w.heap.size w w') : Rd w' v size n xs := by
  obtain ⟨h1, A, c, rfl, hc, hr⟩ := h
  refine ⟨h1, A, c, rfl, hc, fun hn => ?_⟩
  obtain ⟨a, rfl, hcell⟩ := hr hn
  exact ⟨a, rfl, fun j u hu => (hb.cell (World.block_lt_of_cell? w _ (hcell j u hu))).trans (hcell j u hu)⟩

theorem Rd.of_own {base : Nat} {w : World} {t size : Nat} {v : Value} {n : Nat} {xs : List Value} (h : w.ownsRow base t size v n xs) : Rd w v size n xs := by
  refine ⟨h.1, ?_⟩
  rcases h.2 with ⟨rfl, rfl⟩ | ⟨g, cap, cur, rfl, hg, hh, hn, hc⟩
  · exact ⟨none, 0, rfl, Nat.le_refl _, fun hn => absurd hn (by rw [h.1]; simp)⟩
  · exact ⟨_, _, rfl, hn, fun _ => ⟨_, rfl, h.cells rfl⟩⟩

theorem RdL.old {w0 : World} {L : List Ent} {v : Value} {size n : Nat} {xs : List Value} (h : Rd w0 v size n xs) : RdL w0 L v size n xs :=
  fun _ hw => h.below hw.below
theorem RdL.own {w0 : World} {L : List Ent} {t : Nat} {v : Value} {size n : Nat} {xs : List Value} (i : Nat) (h : L[i]? = some (.row t size v n xs)) : RdL w0 L v size n xs :=
  fun _ hw => Rd.of_own (hw.own _ (List.mem_of_getElem? h))
theorem RdL.mem {w0 : World} {L : List Ent} {t : Nat} {v : Value} {size n : Nat} {xs : List Value} (h : Ent.row t size v n xs ∈ L) : RdL w0 L v size n xs :=
  fun _ hw => Rd.of_own (hw.own _ h)

/-- The address of cell j of a slice. -/
def ptrAt (v : Value) (j : Nat) : Value :=
  match v with
  | .slice (some a) _ _ => .pointer (some (a.add j))
  | _ => undef

abbrev ints (l : List Int) : List Value := l.map (Value.int .i64)
abbrev bools (l : List Bool) : List Value := l.map Value.bool
abbrev strs (l : List ByteArray) : List Value := l.map Value.string

theorem ints_get {l : List Int} {k : Nat} (h : k < l.length) : (ints l)[k]? = some (.int .i64 (l.getD k 0)) := by
  simp [List.getElem?_map, List.getElem?_eq_getElem h, List.getD]
theorem bools_get {l : List Bool} {k : Nat} (h : k < l.length) : (bools l)[k]? = some (.bool (l.getD k false)) := by
  simp [List.getElem?_map, List.getElem?_eq_getElem h, List.getD]
theorem strs_get {l : List ByteArray} {k : Nat} (h : k < l.length) : (strs l)[k]? = some (.string (l.getD k ByteArray.empty)) := by
  simp [List.getElem?_map, List.getElem?_eq_getElem h, List.getD]
theorem vals_get {l : List Value} {k : Nat} (h : k < l.length) : l[k]? = some (l.getD k undef) := by
  simp [List.getElem?_eq_getElem h, List.getD]

theorem seg_flatMap {α : Type} {f : α → List Value} {m : Nat} (hf : ∀ x, (f x).length = m) : ∀ (l : List α) (k : Nat) (x : α), l[k]? = some x → ((l.flatMap f).drop (k * m)).take m = f x
  | [], k, x, h => by simp at h
  | y :: l, 0, x, h => by
    simp at h
    subst h
    simp [← hf y]
  | y :: l, k + 1, x, h => by
    simp only [List.getElem?_cons_succ] at h
    have e : (k + 1) * m = (f y).length + k * m := by rw [hf]; rw [Nat.add_mul]; omega
    rw [List.flatMap_cons, e, List.drop_append, List.drop_of_length_le (by omega)]
    simpa using seg_flatMap hf l k x h
theorem length_flatMap {α : Type} {f : α → List Value} {m : Nat} (hf : ∀ x, (f x).length = m) : ∀ (l : List α), (l.flatMap f).length = l.length * m
  | [] => by simp
  | y :: l => by rw [List.flatMap_cons, List.length_append, length_flatMap hf l, hf]; simp [Nat.add_mul, Nat.add_comm]
theorem get_of_seg {xs ys : List Value} {o m : Nat} (h : (xs.drop o).take m = ys) {j : Nat} {u : Value} (hu : ys[j]? = some u) : xs[o + j]? = some u := by
  rw [← h, List.getElem?_take] at hu
  split at hu
  · rwa [List.getElem?_drop] at hu
  · cases hu

theorem getD_some {α : Type} {l : List α} {k : Nat} (h : k < l.length) (d : α) : l[k]? = some (l.getD k d) := by
  simp [List.getElem?_eq_getElem h, List.getD]
theorem seg_get {α : Type} {f : α → List Value} {m : Nat} (hf : ∀ x, (f x).length = m) {l : List α} {k : Nat} (h : k < l.length) (d : α) : ((l.flatMap f).drop (k * m)).take m = f (l.getD k d) :=
  seg_flatMap hf l k _ (getD_some h d)
theorem fget {α : Type} {f : α → List Value} {m : Nat} (hf : ∀ x, (f x).length = m) {l : List α} {k o : Nat} {u : Value} (h : k < l.length) (d : α) (hu : (f (l.getD k d))[o]? = some u) : (l.flatMap f)[k * m + o]? = some u :=
  get_of_seg (seg_get hf h d) hu

/-! ### Types -/

/-- The slice type T has elements of type e, of 'size' cells and 'bytes' bytes, with zero 'z'. -/
structure SlT (P : Program) (T e size bytes : Nat) (z : Value) : Prop where
  under : P.underlying T = some (.slice e)
  info : (P.info? e).map (fun i => (i.zero, i.size, i.bytes)) = some (some z, size, bytes)
  cells : z.cells.size = size
  pos : 0 < size

theorem SlT.parts {P : Program} {T e size bytes : Nat} {z : Value} (h : SlT P T e size bytes z) : ∃ i, P.info? e = some i ∧ i.zero = some z ∧ i.size = size ∧ i.bytes = bytes := by
  obtain ⟨i, hi, he⟩ := Option.map_eq_some_iff.1 h.info
  simp only [Prod.mk.injEq] at he
  exact ⟨i, hi, he.1, he.2.1, he.2.2⟩

theorem SlT.size_run {P : Program} {T e size bytes : Nat} {z : Value} (h : SlT P T e size bytes z) (w : World) : (sizeOf e).run P w = .ok size w := by
  obtain ⟨i, hi, _, hs, _⟩ := h.parts
  simp [sizeOf, typeInfo, hi, hs]
theorem SlT.elem {P : Program} {T e size bytes : Nat} {z : Value} (h : SlT P T e size bytes z) : P.elem T = e := by
  simp [Program.elem, h.under]

/-- A type whose values are one cell: 'none'; a struct or an array of m cells: 'some m'. -/
def cellT (P : Program) (T : Nat) : Option (Option Nat) :=
  match P.underlying T with
  | some (.struct _) | some (.array ..) => (P.info? T).map (fun i => some i.size)
  | some _ => (P.info? T).bind fun i => if i.size = 1 then some none else none
  | none => none

theorem cellT_one {P : Program} {T : Nat} (h : cellT P T = some none) (w : World) : (isAgg T).run P w = .ok false w ∧ (sizeOf T).run P w = .ok 1 w := by
  unfold cellT at h
  split at h
  · rename_i fs hu
    cases hi : P.info? T <;> simp [hi] at h
  · rename_i n e hu
    cases hi : P.info? T <;> simp [hi] at h
  · rename_i d hns hna hu
    cases hi : P.info? T with
    | none => simp [hi] at h
    | some i =>
      simp [hi] at h
      refine ⟨?_, by simp [sizeOf, typeInfo, hi, h]⟩
      simp only [isAgg, Sem.run_bind, run_underlying hu, Result.andThen_ok]
      cases d <;> first | rfl | (exfalso; first | exact hns _ rfl | exact hna _ _ rfl)
  · cases h

theorem cellT_agg {P : Program} {T m : Nat} (h : cellT P T = some (some m)) (w : World) : (isAgg T).run P w = .ok true w ∧ (sizeOf T).run P w = .ok m w := by
  unfold cellT at h
  split at h
  · rename_i fs hu
    cases hi : P.info? T with
    | none => simp [hi] at h
    | some i => simp [hi] at h; exact ⟨by simp [isAgg, run_underlying hu], by simp [sizeOf, typeInfo, hi, h]⟩
  · rename_i n e hu
    cases hi : P.info? T with
    | none => simp [hi] at h
    | some i => simp [hi] at h; exact ⟨by simp [isAgg, run_underlying hu], by simp [sizeOf, typeInfo, hi, h]⟩
  · rename_i d hns hna hu
    cases hi : P.info? T with
    | none => simp [hi] at h
    | some i => simp [hi] at h
  · cases h

end Go.AW
