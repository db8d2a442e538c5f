/- Regions that draw their order: whatever order is drawn. No statement of the seat is proved here. -/
import Derived.Test.YtmfinopdokkjcaaAwc
namespace Go.AW
open Go Go.RowKit
set_option linter.unusedVariables false
set_option linter.unusedSimpArgs false

section
variable {E : List Nat} {P : Program} {N : Nat} {w0 : World} {R : Exit → Act → World → Prop} {k : List It} {s : Fr} {L : List Ent} {ops : Array Oper}

/-- Looks at no memory. -/
def WF {α : Type} (m : Sem α) : Prop := ∀ (P : Program) (w w' : World) (u : α) (w1 : World), m.run P w = .ok u w1 → w1 = w ∧ m.run P w' = .ok u w'
def Never {α : Type} (m : Sem α) : Prop := ∀ (P : Program) (w : World) (u : α) (w1 : World), m.run P w ≠ .ok u w1
theorem WF.pure {α : Type} (a : α) : WF (Pure.pure a : Sem α) := by
  intro P w w' u w1 h
  rw [Sem.run_pure] at h ⊢
  cases h
  exact ⟨rfl, rfl⟩
theorem Never.wf {α : Type} {m : Sem α} (h : Never m) : WF m := fun P w w' u w1 hh => absurd hh (h P w u w1)
theorem WF.bind {α β : Type} {m : Sem α} {f : α → Sem β} (h : WF m) (hf : ∀ a, WF (f a)) : WF (m >>= f) := by
  intro P w w' u w1 hh
  rw [Sem.run_bind] at hh ⊢
  cases hm : m.run P w with
  | ok a w2 =>
    obtain ⟨rfl, h2⟩ := h P w w' a w2 hm
    rw [hm] at hh
    rw [h2]
    simp only [Result.andThen_ok] at hh ⊢
    exact hf a P w2 w' u w1 hh
  | halt x w2 =>
    rw [hm] at hh
    cases hh
theorem Never.bind {α β : Type} {m : Sem α} {f : α → Sem β} (hf : ∀ a, Never (f a)) : Never (m >>= f) := by
  intro P w u w1 hh
  rw [Sem.run_bind] at hh
  cases hm : m.run P w with
  | ok a w2 => rw [hm] at hh; simp only [Result.andThen_ok] at hh; exact hf a P w2 u w1 hh
  | halt x w2 => rw [hm] at hh; cases hh
theorem WF.program : WF program := by
  intro P w w' u w1 h
  rw [run_program] at h ⊢
  cases h
  exact ⟨rfl, rfl⟩
theorem Never.halt {α : Type} (h : Halt) : Never (Sem.halt h : Sem α) := by
  intro P w u w1 hh
  simp at hh
theorem WF.typeInfo (t : TypeId) : WF (typeInfo t) := by
  unfold Go.typeInfo
  refine WF.program.bind fun p => ?_
  cases p.info? t with
  | none => exact (Never.halt _).wf
  | some i => exact WF.pure _
theorem WF.underlying (t : TypeId) : WF (Go.underlying t) := by
  unfold Go.underlying
  refine WF.program.bind fun p => ?_
  cases p.underlying t with
  | none => exact (Never.halt _).wf
  | some i => exact WF.pure _
theorem WF.sizeOf (t : TypeId) : WF (Go.sizeOf t) := by
  unfold Go.sizeOf
  exact (WF.typeInfo t).bind fun i => WF.pure _
theorem WF.asIntOf (x : Value) : WF (Go.asIntOf x) := by
  unfold Go.asIntOf
  split
  · exact WF.pure _
  · exact (Never.halt _).wf
  · exact (Never.halt _).wf
theorem WF.sureAddr (x : Value) : WF (Instr.sureAddr x) := by
  unfold Instr.sureAddr
  split
  · exact WF.pure _
  · exact (Never.halt _).wf
theorem Never.rtBounds {α : Type} (x y : Int) (b : Bool) (c : BoundsCode) : Never (runtimePanic (.bounds x y b c) : Sem α) := by
  unfold runtimePanic
  refine Never.bind fun p => ?_
  exact Never.halt _
theorem Never.bounds {α : Type} (k : IntKind) (x y : Int) (c : BoundsCode) : Never (boundsPanic k x y c : Sem α) := by
  unfold boundsPanic
  dsimp only
  split
  · exact Never.bind fun s => Never.rtBounds _ _ _ _
  · exact Never.bind fun s => Never.rtBounds _ _ _ _
theorem WF.ite {α : Type} {c : Prop} [Decidable c] {a b : Sem α} (h1 : WF a) (h2 : WF b) : WF (if c then a else b) := by
  split
  · exact h1
  · exact h2
theorem WF.idxK (t : TypeId) (k : IntKind) (i : Int) (base : Option Addr) (len : Nat) (elem : TypeId) : WF (do
    let d ← Go.underlying t
    let tiny := decide (len ≤ 1) && (match d with | .array .. => true | _ => false)
    match base with
    | some a =>
      if 0 ≤ i ∧ i < len then do
        let s ← Go.sizeOf elem
        Pure.pure (Value.pointer (some (a.add (i.toNat * s))))
      else if tiny = true then unsupported (.noEntry "op/indexAddr.an index out of range at an array of length 0 or 1 (ledger 616)")
      else boundsPanic k i len .index
    | none => boundsPanic k i 0 .index) := by
  refine (WF.underlying t).bind fun d' => ?_
  cases base with
  | none => exact (Never.bounds _ _ _ _).wf
  | some a =>
    dsimp only
    exact WF.ite ((WF.sizeOf _).bind fun s => WF.pure _) (WF.ite (Never.halt _).wf (Never.bounds _ _ _ _).wf)
theorem WF.indexAt (t : TypeId) (x ix : Value) : WF (Instr.indexAt t x ix) := by
  unfold Instr.indexAt
  refine (WF.asIntOf ix).bind fun ki => ?_
  obtain ⟨k, i⟩ := ki
  refine (WF.underlying t).bind fun d => ?_
  dsimp only
  split
  · exact (WF.sureAddr _).bind fun a => (WF.pure _).bind fun b => WF.idxK t k i b.1 b.2.1 b.2.2
  · exact (WF.pure _).bind fun b => WF.idxK t k i b.1 b.2.1 b.2.2
  · exact WF.bind (Never.halt _).wf fun b => WF.idxK t k i b.1 b.2.1 b.2.2
/-- Operations that look at no memory. -/
def freeB : Op → Bool
  | .move _ | .assign _ | .indexAddr .. => true
  | _ => false
theorem freeB_spec {o : Oper} (h : freeB o.op = true) (ρ : Operand → Value) : WF (execOp ρ o) := by
  unfold execOp
  cases ho : o.op <;> rw [ho] at h <;> first | (cases h; done) | skip
  · exact WF.pure _
  · exact WF.pure _
  · exact (WF.indexAt _ _ _).bind fun a => WF.pure _
theorem freeB_value {P : Program} {o : Oper} {ρ : Operand → Value} {w w1 : World} {n : Next} (h : freeB o.op = true) (hr : (execOp ρ o).run P w = .ok n w1) : ∃ u, n = .value u := by
  unfold execOp at hr
  cases ho : o.op <;> rw [ho] at h hr <;> first | (cases h; done) | skip
  · rw [Sem.run_pure] at hr; cases hr; exact ⟨_, rfl⟩
  · rw [Sem.run_pure] at hr; cases hr; exact ⟨_, rfl⟩
  · dsimp only at hr
    rw [Sem.run_bind] at hr
    generalize (Instr.indexAt _ _ _).run P w = r at hr
    cases r with
    | ok u w2 => simp only [Result.andThen_ok, Sem.run_pure] at hr; cases hr; exact ⟨_, rfl⟩
    | halt x w2 => cases hr
theorem Yld.free {P : Program} {o : Oper} {ρ : Operand → Value} {w w' : World} {v : Value} (h : freeB o.op = true) (hy : Yld P w v ((execOp ρ o).run P w)) : Yld P w' v ((execOp ρ o).run P w') := by
  have hf := freeB_spec h ρ
  cases hr : (execOp ρ o).run P w with
  | ok n w1 =>
    obtain ⟨rfl, h2⟩ := hf P w w' n w1 hr
    obtain ⟨u, rfl⟩ := freeB_value h hr
    rw [hr] at hy
    rw [h2]
    exact ⟨rfl, hy.2⟩
  | halt x w1 => rw [hr] at hy; simp only [Yld] at hy

/-- What an operation, carried out in the world 'w', must come to. -/
def uponL (P : Program) (w0 : World) (o : Oper) (a : Act) (K : Act → List Ent → Prop) : Result Next → Prop
  | .ok (.value v) w' => ∃ L', Sat w0 w' L' ∧ K (a.put o.dst v) L'
  | .ok .skip w' => ∃ L', Sat w0 w' L' ∧ K (a.put o.dst undef) L'
  | .ok (.enter f args) w' => Calls P f args w' fun e w'' => ∃ v L', e = .returned v ∧ Sat w0 w'' L' ∧ K (a.put o.dst v) L'
  | _ => False

def opL (P : Program) (w0 : World) (ops : Array Oper) (i : Nat) (K : Act → List Ent → Prop) (a : Act) (L : List Ent) : Prop :=
  match ops[i]? with
  | none => K a L
  | some o => if Region.wanted o (yielded ops a.tmps) then ∀ w, Sat w0 w L → uponL P w0 o a K ((execOp a.eval o).run P w) else K (a.put o.dst undef) L

/-- Operation j waits for operation i. -/
def edgeB (ops : Array Oper) (j i : Nat) : Bool := ((ops[j]?).map fun o => o.after.any fun e => Region.binds .any e && Nat.beq e.on i).getD false
/-- Operation j waits for operation i, directly or through others. -/
def reachB (ops : Array Oper) : Nat → Nat → Nat → Bool
  | 0, _, _ => false
  | f + 1, j, i => ((ops[j]?).map fun o => o.after.any fun e => Region.binds .any e && (Nat.beq e.on i || reachB ops f e.on i)).getD false
/-- Operation j waits for every other one, or that one for it, or looks at no memory. -/
def soloB (ops : Array Oper) (j : Nat) : Bool := (List.range ops.size).all fun i => Nat.beq i j || ((ops[i]?).map fun o => freeB o.op).getD false || reachB ops ops.size j i || reachB ops ops.size i j
/-- Operations that write what is owned. -/
def effB (E : List Nat) : Op → Bool
  | .store .. => true
  | .call c => match c.callee with
    | .builtin .append => true
    | .value (.func f) => E.any (Nat.beq f)
    | _ => false
  | _ => false
def effAt (E : List Nat) (ops : Array Oper) (i : Nat) : Bool := ((ops[i]?).map fun o => effB E o.op).getD false
def obB (E : List Nat) (ops : Array Oper) (i : Nat) : Bool := effAt E ops i || soloB ops i
/-- What has come up had waited for what came up before. -/
def closedB (ops : Array Oper) (listed : Array Bool) : Bool := (List.range ops.size).all fun m => !(listed.getD m false) || ((ops[m]?).map fun o => o.after.all fun e => !(Region.binds .any e) || listed.getD e.on false).getD true
def Closed (ops : Array Oper) (listed : Array Bool) : Prop := ∀ m om, ops[m]? = some om → listed.getD m false = true → ∀ e ∈ om.after, Region.binds .any e = true → listed.getD e.on false = true
theorem closedB_spec {ops : Array Oper} {listed : Array Bool} (h : closedB ops listed = true) : Closed ops listed := by
  intro m om hom hm e he hb
  unfold closedB at h
  rw [List.all_eq_true] at h
  have h1 := h m (List.mem_range.2 (Array.getElem?_eq_some_iff.1 hom).1)
  rw [hm, hom] at h1
  simp only [Bool.not_true, Bool.false_or, Option.map_some, Option.getD_some] at h1
  have h2 := (Array.all_eq_true'.1 h1) e he
  rw [hb] at h2
  simpa using h2
theorem Closed.ready {ops : Array Oper} {listed : Array Bool} {j : Nat} (h : Closed ops listed) (hj : j ∈ Region.ready .any ops listed) : Closed ops (listed.setIfInBounds j true) := by
  intro m om hom hm e he hb
  obtain ⟨_, oj, hoj, hall⟩ := mem_ready.1 hj
  by_cases hjm : j = m
  · subst hjm
    rw [hom] at hoj
    cases hoj
    exact getD_set_true (hall e he hb)
  · rw [getD_set_ne false hjm] at hm
    exact getD_set_true (h m om hom hm e he hb)
theorem reach_listed {ops : Array Oper} {listed : Array Bool} (hcl : Closed ops listed) : ∀ (f j i : Nat), (∀ oj, ops[j]? = some oj → ∀ e ∈ oj.after, Region.binds .any e = true → listed.getD e.on false = true) → reachB ops f j i = true → listed.getD i false = true
  | 0, _, _, _, h => by cases h
  | f + 1, j, i, hj, h => by
    unfold reachB at h
    cases ho : ops[j]? with
    | none => rw [ho] at h; cases h
    | some oj =>
      rw [ho] at h
      simp only [Option.map_some, Option.getD_some] at h
      obtain ⟨e, he, h2⟩ := Array.any_eq_true'.1 h
      simp only [Bool.and_eq_true, Bool.or_eq_true] at h2
      have h3 := hj oj ho e he h2.1
      rcases h2.2 with h4 | h4
      · rw [← Nat.eq_of_beq_eq_true h4]; exact h3
      · exact reach_listed hcl f e.on i (fun om hom e' he' hb' => hcl e.on om hom h3 e' he' hb') h4

/-- Whatever order is picked from here on; what was owned stays owned, but where an operation's turn is fixed. -/
def anyL (E : List Nat) (P : Program) (w0 : World) (ops : Array Oper) (Q : Act → List Ent → Prop) : Nat → Array Bool → Act → List Ent → Prop
  | 0, listed, a, L => Region.ready .any ops listed = [] ∧ Q a L
  | fuel + 1, listed, a, L =>
    (Region.ready .any ops listed = [] → Q a L) ∧
    ∀ i ∈ Region.ready .any ops listed, opL P w0 ops i (fun a' L' => (obB E ops i = true ∨ Ext L L') ∧ anyL E P w0 ops Q fuel (listed.setIfInBounds i true) a' L') a L

theorem wp_of_opL {i : Nat} {a : Act} {w : World} {K : Act → List Ent → Prop} {Qx : Exit → Act → World → Prop} {K' : Act → World → Prop} (hw : Sat w0 w L) (h : opL P w0 ops i K a L)
    (hK : ∀ a' L' w', Sat w0 w' L' → K a' L' → K' a' w') : wpOp P ops Qx i K' a w := by
  unfold opL at h
  unfold wpOp
  cases ho : ops[i]? with
  | none => simp only [ho] at h ⊢; exact hK _ _ _ hw h
  | some o =>
    simp only [ho] at h ⊢
    by_cases hwa : Region.wanted o (yielded ops a.tmps) = true
    · rw [if_pos hwa] at h ⊢
      left
      have h1 := h w hw
      unfold Oper.wp
      generalize (execOp a.eval o).run P w = r at h1
      cases r with
      | ok n w' =>
        cases n <;> simp only [uponL] at h1
        case value v => obtain ⟨L', h2, h3⟩ := h1; exact hK _ _ _ h2 h3
        case skip => obtain ⟨L', h2, h3⟩ := h1; exact hK _ _ _ h2 h3
        case enter f args =>
          refine Calls.mono h1 ?_
          rintro e w'' ⟨v, L', rfl, h2, h3⟩
          exact hK _ _ _ h2 h3
      | halt x w' => simp only [uponL] at h1
    · rw [if_neg hwa] at h ⊢
      exact hK _ _ _ hw h

theorem wpAny_of_anyL {Q : Act → List Ent → Prop} {Qx : Exit → Act → World → Prop} (hQ : ∀ a L w, Sat w0 w L → Q a L → Qx .normal a w) : ∀ (fuel : Nat) (listed : Array Bool) (a : Act) (L : List Ent) (w : World), Sat w0 w L →
    anyL E P w0 ops Q fuel listed a L → wpAny P .any ops Qx fuel listed a w
  | 0, _, _, _, _, hw, h => ⟨h.1, hQ _ _ _ hw h.2⟩
  | fuel + 1, _, _, _, _, hw, h => ⟨fun h0 => hQ _ _ _ hw (h.1 h0), fun i hi => wp_of_opL hw (h.2 i hi) fun a' L' w' hw' hk => wpAny_of_anyL hQ fuel _ a' L' w' hw' hk.2⟩

/-- The value v, in every memory that fits. -/
def YieldsL (P : Program) (w0 : World) (ops : Array Oper) (L : List Ent) (o : Oper) (v : Value) (a : Act) : Prop :=
  (Region.wanted o (yielded ops a.tmps) = true ∧ ∀ w, Sat w0 w L → Yld P w v ((execOp a.eval o).run P w)) ∨
  (Region.wanted o (yielded ops a.tmps) = false ∧ v = undef)

theorem YieldsL.opL {i : Nat} {o : Oper} {v : Value} {a : Act} (hi : ops[i]? = some o) (hy : YieldsL P w0 ops L o v a) {K : Act → List Ent → Prop} (h : K (a.put o.dst v) L) : opL P w0 ops i K a L := by
  unfold AW.opL
  simp only [hi]
  rcases hy with ⟨hw, hv⟩ | ⟨hw, rfl⟩
  · rw [if_pos hw]
    intro w hsw
    have h1 := hv w hsw
    generalize (execOp a.eval o).run P w = r at h1
    cases r with
    | ok n w' =>
      cases n <;> simp only [Yld] at h1
      case value u => obtain ⟨rfl, rfl⟩ := h1; exact ⟨L, hsw, h⟩
      case enter f args =>
        obtain ⟨rfl, h2⟩ := h1
        refine Calls.mono h2 ?_
        rintro e w'' ⟨rfl, h3⟩
        exact ⟨v, L, rfl, by simpa using hsw.trans h3, h⟩
    | halt x w' => simp only [Yld] at h1
  · rw [if_neg (by simp [hw])]
    exact h

theorem YieldsL.of_same {o : Oper} {v : Value} {a a' : Act} {L' : List Ent} (hy : YieldsL P w0 ops L o v a) (hL : Ext L L') (he : execOp a'.eval o = execOp a.eval o)
    (hw : Region.wanted o (yielded ops a'.tmps) = Region.wanted o (yielded ops a.tmps)) : YieldsL P w0 ops L' o v a' := by
  unfold YieldsL at *
  rw [he, hw]
  rcases hy with ⟨h1, h2⟩ | h
  · exact .inl ⟨h1, fun w hsw => h2 w (hsw.ext hL)⟩
  · exact .inr h

theorem opL_mono {i : Nat} {a : Act} {K K' : Act → List Ent → Prop} (h : ∀ a L, K a L → K' a L) (hh : opL P w0 ops i K a L) : opL P w0 ops i K' a L := by
  unfold opL at *
  cases ho : ops[i]? with
  | none => simp only [ho] at hh ⊢; exact h _ _ hh
  | some o =>
    simp only [ho] at hh ⊢
    by_cases hwa : Region.wanted o (yielded ops a.tmps) = true
    · rw [if_pos hwa] at hh ⊢
      intro w hsw
      have h1 := hh w hsw
      generalize (execOp a.eval o).run P w = r at h1
      cases r with
      | ok n w' =>
        cases n <;> simp only [uponL] at h1 ⊢
        case value v => obtain ⟨L', h2, h3⟩ := h1; exact ⟨L', h2, h _ _ h3⟩
        case skip => obtain ⟨L', h2, h3⟩ := h1; exact ⟨L', h2, h _ _ h3⟩
        case enter f args =>
          refine Calls.mono h1 ?_
          rintro e w'' ⟨v, L', rfl, h2, h3⟩
          exact ⟨v, L', rfl, h2, h _ _ h3⟩
      | halt x w' => simp only [uponL] at h1
    · rw [if_neg hwa] at hh ⊢
      exact h _ _ hh

theorem opL_put {j : Nat} {oi oj : Oper} {v : Value} (hj : ops[j]? = some oj) (hap : oi.apart ops oj = true)
    (hsi : ∀ cs b, oi.op ≠ .select cs b) (hsj : ∀ cs b, oj.op ≠ .select cs b) {K : Act → List Ent → Prop} {a : Act}
    (hy : YieldsL P w0 ops L oi v a) (h : opL P w0 ops j (fun a' L' => (Ext L L' ∨ freeB oi.op = true) ∧ K a' L') (a.put oi.dst v) L) :
    opL P w0 ops j (fun a' L' => YieldsL P w0 ops L' oi v a' ∧ K (a'.put oi.dst v) L') a L := by
  obtain ⟨h1, h2, h3⟩ := Oper.apart_spec hap
  have keep : ∀ (u : Value) (L' : List Ent), Ext L L' → YieldsL P w0 ops L' oi v (a.put oj.dst u) := fun u L' hL' =>
    hy.of_same hL' (execOp_put oi hsi a oj.dst u h3) (wanted_put oi a oj.dst u h3)
  have keepF : ∀ (u : Value) (L' : List Ent) (w : World), Sat w0 w L → (Ext L L' ∨ freeB oi.op = true) → YieldsL P w0 ops L' oi v (a.put oj.dst u) := fun u L' w hsw hL' => by
    rcases hL' with hL' | hf
    · exact keep u L' hL'
    · unfold YieldsL at hy ⊢
      rw [execOp_put oi hsi a oj.dst u h3, wanted_put oi a oj.dst u h3]
      rcases hy with ⟨e1, e2⟩ | e
      · exact .inl ⟨e1, fun w'' _ => Yld.free hf (e2 w hsw)⟩
      · exact .inr e
  unfold opL at *
  simp only [hj] at *
  rw [wanted_put oj a oi.dst v h1] at h
  by_cases hwa : Region.wanted oj (yielded ops a.tmps) = true
  · rw [if_pos hwa] at h ⊢
    intro w hsw
    have h4 := h w hsw
    rw [execOp_put oj hsj a oi.dst v h1] at h4
    generalize (execOp a.eval oj).run P w = r at h4
    cases r with
    | ok n w' =>
      cases n <;> simp only [uponL] at h4 ⊢
      case value u => obtain ⟨L', h5, h6, h7⟩ := h4; exact ⟨L', h5, keepF u L' w hsw h6, by rw [← Act.put_comm a v u h2]; exact h7⟩
      case skip => obtain ⟨L', h5, h6, h7⟩ := h4; exact ⟨L', h5, keepF _ L' w hsw h6, by rw [← Act.put_comm a v undef h2]; exact h7⟩
      case enter f args =>
        refine Calls.mono h4 ?_
        rintro e w'' ⟨u, L', rfl, h5, h6, h7⟩
        exact ⟨u, L', rfl, h5, keepF u L' w hsw h6, by rw [← Act.put_comm a v u h2]; exact h7⟩
    | halt x w' => simp only [uponL] at h4
  · rw [if_neg hwa] at h ⊢
    exact ⟨keep _ L (Ext.refl L), by rw [← Act.put_comm a v undef h2]; exact h.2⟩

theorem edge_not {listed : Array Bool} {i j : Nat} (hi : listed.getD i true = false) (hj : j ∈ Region.ready .any ops listed) : edgeB ops j i = false := by
  obtain ⟨_, oj, hoj, hall⟩ := mem_ready.1 hj
  unfold edgeB
  rw [hoj]
  simp only [Option.map_some, Option.getD_some]
  cases hh : oj.after.any fun e => Region.binds .any e && Nat.beq e.on i with
  | false => rfl
  | true =>
    exfalso
    replace hh := Array.any_eq_true'.1 hh
    obtain ⟨e, he, h2⟩ := hh
    simp only [Bool.and_eq_true] at h2
    have h3 := hall e he h2.1
    rw [Nat.eq_of_beq_eq_true h2.2] at h3
    rw [Array.getD_eq_getD_getElem?] at hi h3
    cases hl : listed[i]? with
    | none => rw [hl] at hi; simp at hi
    | some b => rw [hl] at hi h3; simp at hi h3; rw [hi] at h3; cases h3

theorem solo_free {listed : Array Bool} {i j : Nat} {oi : Oper} (hcl : Closed ops listed) (hi : i ∈ Region.ready .any ops listed) (hj : j ∈ Region.ready .any ops listed) (hne : i ≠ j) (ho : ops[i]? = some oi) (hs : soloB ops j = true) : freeB oi.op = true := by
  unfold soloB at hs
  rw [List.all_eq_true] at hs
  obtain ⟨hi0, oi', hoi, halli⟩ := mem_ready.1 hi
  obtain ⟨hj0, oj', hoj, hallj⟩ := mem_ready.1 hj
  have h1 := hs i (List.mem_range.2 (Array.getElem?_eq_some_iff.1 hoi).1)
  have no : ∀ {m n : Nat} {om : Oper}, ops[m]? = some om → (∀ e ∈ om.after, Region.binds .any e = true → listed.getD e.on false = true) → listed.getD n true = false → reachB ops ops.size m n = true → False := fun {m n om} hom hall hn hr => by
    have h2 := reach_listed hcl ops.size m n (fun o' ho' => by rw [hom] at ho'; cases ho'; exact hall) hr
    rw [Array.getD_eq_getD_getElem?] at h2 hn
    cases hl : listed[n]? with
    | none => rw [hl] at hn; simp at hn
    | some b => rw [hl] at h2 hn; simp only [Option.getD_some] at h2 hn; rw [hn] at h2; cases h2
  rw [ho] at h1
  simp only [Option.map_some, Option.getD_some, Bool.or_eq_true] at h1
  rcases h1 with ((h1 | h1) | h1) | h1
  · exact absurd (Nat.eq_of_beq_eq_true h1) hne
  · exact h1
  · exact (no hoj hallj hi0 h1).elim
  · exact (no hoi halli hj0 h1).elim

theorem no_reach {listed : Array Bool} (hcl : Closed ops listed) {m n : Nat} (hm : m ∈ Region.ready .any ops listed) (hn : n ∈ Region.ready .any ops listed) (hr : reachB ops ops.size m n = true) : False := by
  obtain ⟨_, om, hom, hall⟩ := mem_ready.1 hm
  obtain ⟨hn0, _⟩ := mem_ready.1 hn
  have h2 := reach_listed hcl ops.size m n (fun o' ho' => by rw [hom] at ho'; cases ho'; exact hall) hr
  rw [Array.getD_eq_getD_getElem?] at h2 hn0
  cases hl : listed[n]? with
  | none => rw [hl] at hn0; simp at hn0
  | some b => rw [hl] at h2 hn0; simp only [Option.getD_some] at h2 hn0; rw [hn0] at h2; cases h2
theorem ob_free {listed : Array Bool} {i j : Nat} {oi : Oper} (heff : ∀ u, u ≠ i → listed.getD u true = false → effAt E ops u = true → reachB ops ops.size u i = true ∨ reachB ops ops.size i u = true ∨ freeB oi.op = true)
    (hcl : Closed ops listed) (hi : i ∈ Region.ready .any ops listed) (hj : j ∈ Region.ready .any ops listed) (hne : i ≠ j) (ho : ops[i]? = some oi) (hs : obB E ops j = true) : freeB oi.op = true := by
  unfold obB at hs
  rw [Bool.or_eq_true] at hs
  rcases hs with hs | hs
  · rcases heff j (Ne.symm hne) (mem_ready.1 hj).1 hs with h | h | h
    · exact (no_reach hcl hj hi h).elim
    · exact (no_reach hcl hi hj h).elim
    · exact h
  · exact solo_free hcl hi hj hne ho hs

/-- An operation that may come up now, and hangs on nothing that may still turn, may be taken first. -/
theorem anyL_first {Q : Act → List Ent → Prop} {i : Nat} {oi : Oper} {v : Value} (hi : ops[i]? = some oi) (hsel : ∀ (j : Nat) (o : Oper) cs b, ops[j]? = some o → o.op ≠ .select cs b) :
    ∀ (fuel : Nat) (listed : Array Bool) (a : Act) (L : List Ent),
      (∀ u, u ≠ i → listed.getD u true = false → effAt E ops u = true → reachB ops ops.size u i = true ∨ reachB ops ops.size i u = true ∨ freeB oi.op = true) →
      (∀ j oj, ops[j]? = some oj → j ≠ i → listed.getD j true = false → (∀ e ∈ oj.after, Region.binds .any e = true → e.on ≠ i) → oi.apart ops oj = true) →
      Closed ops listed → i ∈ Region.ready .any ops listed → YieldsL P w0 ops L oi v a →
      anyL E P w0 ops Q fuel (listed.setIfInBounds i true) (a.put oi.dst v) L → anyL E P w0 ops Q (fuel + 1) listed a L := by
  intro fuel
  induction fuel with
  | zero =>
    intro listed a L _ _ _ hr hy H
    refine ⟨fun h => (by rw [h] at hr; cases hr), fun j hj => ?_⟩
    by_cases hji : j = i
    · subst hji; exact hy.opL hi ⟨.inr (Ext.refl L), H⟩
    · have := ready_mono hj hji
      rw [H.1] at this
      cases this
  | succ fuel ih =>
    intro listed a L heff hfree hcl hr hy H
    refine ⟨fun h => (by rw [h] at hr; cases hr), fun j hj => ?_⟩
    by_cases hji : j = i
    · subst hji; exact hy.opL hi ⟨.inr (Ext.refl L), H⟩
    · have h1 := H.2 j (ready_mono hj hji)
      obtain ⟨hjun, oj, hoj, hall⟩ := mem_ready.1 hj
      have hnot : ∀ e ∈ oj.after, Region.binds .any e = true → e.on ≠ i := fun e he hb heq => by
        have h1 := hall e he hb
        have h0 := (mem_ready.1 hr).1
        rw [heq] at h1
        rcases Nat.lt_or_ge i listed.size with h' | h'
        · simp [h'] at h0 h1; rw [h0] at h1; cases h1
        · simp [Array.getElem?_eq_none h'] at h1
      have h1' := opL_mono (fun a' L' (h : (obB E ops j = true ∨ Ext L L') ∧ anyL E P w0 ops Q fuel _ a' L') => (⟨h.1.elim (fun hs => .inr (ob_free heff hcl hr hj (Ne.symm hji) hi hs)) .inl, h⟩ : (Ext L L' ∨ freeB oi.op = true) ∧ (_ ∧ _))) h1
      have h2 := opL_put hoj (hfree j oj hoj hji hjun hnot) (fun cs b => hsel i oi cs b hi) (fun cs b => hsel j oj cs b hoj) hy h1'
      have hfree' : ∀ m ok, ops[m]? = some ok → m ≠ i → (listed.setIfInBounds j true).getD m true = false →
          (∀ e ∈ ok.after, Region.binds .any e = true → e.on ≠ i) → oi.apart ops ok = true := fun m ok hm hmi hun hno => by
        refine hfree m ok hm hmi ?_ hno
        by_cases hjm : j = m
        · subst hjm; exact hjun
        · rw [getD_set_ne true hjm] at hun; exact hun
      have heff' : ∀ u, u ≠ i → (listed.setIfInBounds j true).getD u true = false → effAt E ops u = true → reachB ops ops.size u i = true ∨ reachB ops ops.size i u = true ∨ freeB oi.op = true := fun u hui hun hue => by
        refine heff u hui ?_ hue
        by_cases hju : j = u
        · subst hju; exact hjun
        · rw [getD_set_ne true hju] at hun; exact hun
      refine opL_mono (fun a' L' h3 => ⟨h3.2.1, ih (listed.setIfInBounds j true) a' L' heff' hfree' (hcl.ready hj) (ready_mono hr (Ne.symm hji)) h3.1 ?_⟩) h2
      rw [Array.setIfInBounds_comm _ _ hji]
      exact h3.2.2

/-- The value v, in every memory whatever. -/
def YieldsA (P : Program) (ops : Array Oper) (o : Oper) (v : Value) (a : Act) : Prop :=
  (Region.wanted o (yielded ops a.tmps) = true ∧ ∀ w, Yld P w v ((execOp a.eval o).run P w)) ∨
  (Region.wanted o (yielded ops a.tmps) = false ∧ v = undef)
theorem YieldsA.toL {o : Oper} {v : Value} {a : Act} (h : YieldsA P ops o v a) : YieldsL P w0 ops L o v a := by
  rcases h with ⟨h1, h2⟩ | h
  · exact .inl ⟨h1, fun w _ => h2 w⟩
  · exact .inr h
theorem opL_putA {j : Nat} {oi oj : Oper} {v : Value} (hj : ops[j]? = some oj) (hap : oi.apart ops oj = true)
    (hsi : ∀ cs b, oi.op ≠ .select cs b) (hsj : ∀ cs b, oj.op ≠ .select cs b) {K : Act → List Ent → Prop} {a : Act}
    (hy : YieldsA P ops oi v a) (h : opL P w0 ops j K (a.put oi.dst v) L) :
    opL P w0 ops j (fun a' L' => YieldsA P ops oi v a' ∧ K (a'.put oi.dst v) L') a L := by
  obtain ⟨h1, h2, h3⟩ := Oper.apart_spec hap
  have keep : ∀ (u : Value), YieldsA P ops oi v (a.put oj.dst u) := fun u => by
    unfold YieldsA at hy ⊢
    rw [execOp_put oi hsi a oj.dst u h3, wanted_put oi a oj.dst u h3]
    exact hy
  unfold opL at *
  simp only [hj] at *
  rw [wanted_put oj a oi.dst v h1] at h
  by_cases hwa : Region.wanted oj (yielded ops a.tmps) = true
  · rw [if_pos hwa] at h ⊢
    intro w hsw
    have h4 := h w hsw
    rw [execOp_put oj hsj a oi.dst v h1] at h4
    generalize (execOp a.eval oj).run P w = r at h4
    cases r with
    | ok n w' =>
      cases n <;> simp only [uponL] at h4 ⊢
      case value u => obtain ⟨L', h5, h7⟩ := h4; exact ⟨L', h5, keep u, by rw [← Act.put_comm a v u h2]; exact h7⟩
      case skip => obtain ⟨L', h5, h7⟩ := h4; exact ⟨L', h5, keep _, by rw [← Act.put_comm a v undef h2]; exact h7⟩
      case enter f args =>
        refine Calls.mono h4 ?_
        rintro e w'' ⟨u, L', rfl, h5, h7⟩
        exact ⟨u, L', rfl, h5, keep u, by rw [← Act.put_comm a v u h2]; exact h7⟩
    | halt x w' => simp only [uponL] at h4
  · rw [if_neg hwa] at h ⊢
    exact ⟨keep _, by rw [← Act.put_comm a v undef h2]; exact h⟩
/-- An operation that looks at no memory may be taken first. -/
theorem anyL_firstA {Q : Act → List Ent → Prop} {i : Nat} {oi : Oper} {v : Value} (hi : ops[i]? = some oi) (hsel : ∀ (j : Nat) (o : Oper) cs b, ops[j]? = some o → o.op ≠ .select cs b) :
    ∀ (fuel : Nat) (listed : Array Bool) (a : Act) (L : List Ent),
      (∀ j oj, ops[j]? = some oj → j ≠ i → listed.getD j true = false → (∀ e ∈ oj.after, Region.binds .any e = true → e.on ≠ i) → oi.apart ops oj = true) →
      i ∈ Region.ready .any ops listed → YieldsA P ops oi v a →
      anyL E P w0 ops Q fuel (listed.setIfInBounds i true) (a.put oi.dst v) L → anyL E P w0 ops Q (fuel + 1) listed a L := by
  intro fuel
  induction fuel with
  | zero =>
    intro listed a L _ hr hy H
    refine ⟨fun h => (by rw [h] at hr; cases hr), fun j hj => ?_⟩
    by_cases hji : j = i
    · subst hji; exact hy.toL.opL hi ⟨.inr (Ext.refl L), H⟩
    · have := ready_mono hj hji
      rw [H.1] at this
      cases this
  | succ fuel ih =>
    intro listed a L hfree hr hy H
    refine ⟨fun h => (by rw [h] at hr; cases hr), fun j hj => ?_⟩
    by_cases hji : j = i
    · subst hji; exact hy.toL.opL hi ⟨.inr (Ext.refl L), H⟩
    · have h1 := H.2 j (ready_mono hj hji)
      obtain ⟨hjun, oj, hoj, hall⟩ := mem_ready.1 hj
      have hnot : ∀ e ∈ oj.after, Region.binds .any e = true → e.on ≠ i := fun e he hb heq => by
        have h1 := hall e he hb
        have h0 := (mem_ready.1 hr).1
        rw [heq] at h1
        rcases Nat.lt_or_ge i listed.size with h' | h'
        · simp [h'] at h0 h1; rw [h0] at h1; cases h1
        · simp [Array.getElem?_eq_none h'] at h1
      have h2 := opL_putA hoj (hfree j oj hoj hji hjun hnot) (fun cs b => hsel i oi cs b hi) (fun cs b => hsel j oj cs b hoj) hy h1
      have hfree' : ∀ m ok, ops[m]? = some ok → m ≠ i → (listed.setIfInBounds j true).getD m true = false →
          (∀ e ∈ ok.after, Region.binds .any e = true → e.on ≠ i) → oi.apart ops ok = true := fun m ok hm hmi hun hno => by
        refine hfree m ok hm hmi ?_ hno
        by_cases hjm : j = m
        · subst hjm; exact hjun
        · rw [getD_set_ne true hjm] at hun; exact hun
      refine opL_mono (fun a' L' h3 => ⟨h3.2.1, ih (listed.setIfInBounds j true) a' L' hfree' (ready_mono hr (Ne.symm hji)) h3.1 ?_⟩) h2
      rw [Array.setIfInBounds_comm _ _ hji]
      exact h3.2.2

/-! ### Over frames -/

/-- Whatever order is picked from here on, with the frame 's' and the memory 'L'. -/
def Any (E : List Nat) (P : Program) (N : Nat) (w0 : World) (R : Exit → Act → World → Prop) (ops : Array Oper) (fuel : Nat) (listed : Array Bool) (k : List It) (s : Fr) (L : List Ent) : Prop :=
  ∀ a, FrOK N s a → anyL E P w0 ops (fun a' L' => ∃ s', FrOK N s' a' ∧ Run P N w0 R k s' L') fuel listed a L

theorem Any.startE {id : Nat} {l : List Oper} (hm : P.follows .mixedOrders = true) (h : Any E P N w0 R l.toArray l.length (Array.replicate l.length false) k s L) : Run P N w0 R (.code (.region id l.toArray true) :: k) s L := by
  intro a w ha hw
  refine wp_region_any hm ?_
  have h1 := wpAny_of_anyL (Qx := post P N w0 R k) (fun a' L' w' hw' ⟨s', ha', hr⟩ => hr a' w' ha' hw') l.length _ a L { w with drawn := w.drawn + 1 } hw.drew (h a ha)
  simpa using h1
theorem Any.start {id : Nat} {l : List Oper} (hm : P.follows .mixedOrders = true) (h : Any [] P N w0 R l.toArray l.length (Array.replicate l.length false) k s L) : Run P N w0 R (.code (.region id l.toArray true) :: k) s L := Any.startE (E := []) hm h

/-- Every other operation that has not come up waits for i, or is apart from it; i may come up now; none is a select. -/
def take0 (ops : Array Oper) (listed : Array Bool) (i : Nat) : Bool :=
  closedB ops listed && Region.noSelect ops && (Region.ready .any ops listed).contains i &&
  ((ops[i]?).map fun oi => (List.range ops.size).all fun j => Nat.beq j i || listed.getD j true || edgeB ops j i || ((ops[j]?).map fun oj => oi.apart ops oj).getD false).getD false

theorem take0_spec {listed : Array Bool} {i : Nat} {oi : Oper} (hi : ops[i]? = some oi) (h : take0 ops listed i = true) :
    (∀ (j : Nat) (o : Oper) cs b, ops[j]? = some o → o.op ≠ .select cs b) ∧ (Closed ops listed ∧ i ∈ Region.ready .any ops listed) ∧
    (∀ j oj, ops[j]? = some oj → j ≠ i → listed.getD j true = false → (∀ e ∈ oj.after, Region.binds .any e = true → e.on ≠ i) → oi.apart ops oj = true) := by
  unfold take0 at h
  simp only [Bool.and_eq_true, hi, Option.map_some, Option.getD_some] at h
  obtain ⟨⟨⟨h0, h1⟩, h2⟩, h3⟩ := h
  refine ⟨Region.noSelect_spec h1, ⟨closedB_spec h0, by simpa using h2⟩, fun j oj hoj hji hun hno => ?_⟩
  rw [List.all_eq_true] at h3
  have h4 := h3 j (List.mem_range.2 (Array.getElem?_eq_some_iff.1 hoj).1)
  have he : edgeB ops j i = false := by
    unfold edgeB
    rw [hoj]
    simp only [Option.map_some, Option.getD_some]
    cases hh : oj.after.any fun e => Region.binds .any e && Nat.beq e.on i with
    | false => rfl
    | true =>
      exfalso
      replace hh := Array.any_eq_true'.1 hh
      obtain ⟨e, he, h5⟩ := hh
      simp only [Bool.and_eq_true] at h5
      exact hno e he h5.1 (Nat.eq_of_beq_eq_true h5.2)
  have hb : Nat.beq j i = false := by
    cases hh : Nat.beq j i with
    | false => rfl
    | true => exact absurd (Nat.eq_of_beq_eq_true hh) hji
  rw [hb, hun, he, hoj] at h4
  simpa using h4

/-- .. and what writes what is owned is ordered with i. -/
def takeB (E : List Nat) (ops : Array Oper) (listed : Array Bool) (i : Nat) : Bool :=
  take0 ops listed i && (List.range ops.size).all fun u => listed.getD u true || Nat.beq u i || !(effAt E ops u) || ((ops[i]?).map fun oi => freeB oi.op).getD false || reachB ops ops.size u i || reachB ops ops.size i u
theorem takeB_spec {listed : Array Bool} {i : Nat} {oi : Oper} (hi : ops[i]? = some oi) (h : takeB E ops listed i = true) :
    (∀ (j : Nat) (o : Oper) cs b, ops[j]? = some o → o.op ≠ .select cs b) ∧ (Closed ops listed ∧ i ∈ Region.ready .any ops listed) ∧
    (∀ j oj, ops[j]? = some oj → j ≠ i → listed.getD j true = false → (∀ e ∈ oj.after, Region.binds .any e = true → e.on ≠ i) → oi.apart ops oj = true) ∧
    (∀ u, u ≠ i → listed.getD u true = false → effAt E ops u = true → reachB ops ops.size u i = true ∨ reachB ops ops.size i u = true ∨ freeB oi.op = true) := by
  unfold takeB at h
  rw [Bool.and_eq_true] at h
  obtain ⟨h1, h2, h3⟩ := take0_spec hi h.1
  refine ⟨h1, h2, h3, fun u hui hun hue => ?_⟩
  have h4 := h.2
  rw [List.all_eq_true] at h4
  have hlt : u < ops.size := by
    unfold effAt at hue
    cases ho : ops[u]? with
    | none => rw [ho] at hue; cases hue
    | some o => exact (Array.getElem?_eq_some_iff.1 ho).1
  have h5 := h4 u (List.mem_range.2 hlt)
  rw [hun, hue, hi] at h5
  simp only [Bool.not_true, Bool.or_false, Bool.false_or, Option.map_some, Option.getD_some, Bool.or_eq_true] at h5
  rcases h5 with ((h5 | h5) | h5) | h5
  · exact absurd (Nat.eq_of_beq_eq_true h5) hui
  · exact .inr (.inr h5)
  · exact .inl h5
  · exact .inr (.inl h5)

theorem Any.take {fuel : Nat} {listed : Array Bool} {ty : TypeId} {pos : String} {aft : Array Edge} {dd : Nat} {op : Op} {v : Value} (i : Nat) (hi : ops[i]? = some ⟨some dd, op, ty, pos, aft, none⟩) (ht : takeB E ops listed i = true) (hN : Nat.blt dd N = true)
    (hq : QOp P N w0 s L ⟨some dd, op, ty, pos, aft, none⟩ v) (h : Any E P N w0 R ops fuel (listed.setIfInBounds i true) k ((dd, v) :: s) L) : Any E P N w0 R ops (fuel + 1) listed k s L := by
  intro a ha
  obtain ⟨h1, h2, h3, h4⟩ := takeB_spec hi ht
  exact anyL_first hi h1 fuel listed a L h4 h3 h2.1 h2.2 (.inl ⟨by simp [Region.wanted], fun w hw => hq a w ha hw⟩) (h _ (ha.put hN v))

theorem yielded_of {a : Act} {j dj : Nat} {oj : Oper} {b : Bool} (ha : FrOK N s a) (hj : ops[j]? = some oj) (hdj : oj.dst = some dj) (hb : lk s dj = some (.bool b)) : yielded ops a.tmps j = some b := by
  have h0 := ha.slot dj _ hb
  simp only [yielded, hj, Option.bind_some, hdj]
  rw [Array.getD_eq_getD_getElem?] at h0
  cases hh : a.tmps[dj]? with
  | none => rw [hh] at h0; simp [undef] at h0
  | some u => rw [hh] at h0; simp only [Option.getD_some] at h0; rw [h0]

/-- .. that looks at no memory. -/
theorem Any.takeA {fuel : Nat} {listed : Array Bool} {ty : TypeId} {pos : String} {aft : Array Edge} {dd : Nat} {op : Op} {v : Value} (i : Nat) (hi : ops[i]? = some ⟨some dd, op, ty, pos, aft, none⟩) (ht : take0 ops listed i = true) (hN : Nat.blt dd N = true)
    (hq : ∀ w1, Pure P N w1 s [] ⟨some dd, op, ty, pos, aft, none⟩ v) (h : Any E P N w0 R ops fuel (listed.setIfInBounds i true) k ((dd, v) :: s) L) : Any E P N w0 R ops (fuel + 1) listed k s L := by
  intro a ha
  obtain ⟨h1, h2, h3⟩ := take0_spec hi ht
  exact anyL_firstA hi h1 fuel listed a L h3 h2.2 (.inl ⟨by simp [Region.wanted], fun w => (QOp.pure (hq w)) a w ha (Sat.refl w)⟩) (h _ (ha.put hN v))

/-- A guarded operation whose test came out so. -/
theorem Any.takeY {fuel : Nat} {listed : Array Bool} {ty : TypeId} {pos : String} {aft : Array Edge} {dd j dj : Nat} {want b : Bool} {op : Op} {oj : Oper} {v : Value} (i : Nat) (hi : ops[i]? = some ⟨some dd, op, ty, pos, aft, some (j, want)⟩) (ht : takeB E ops listed i = true) (hN : Nat.blt dd N = true)
    (hj : ops[j]? = some oj) (hdj : oj.dst = some dj) (hb : lk s dj = some (.bool b)) (hw : b = want)
    (hq : QOp P N w0 s L ⟨some dd, op, ty, pos, aft, some (j, want)⟩ v) (h : Any E P N w0 R ops fuel (listed.setIfInBounds i true) k ((dd, v) :: s) L) : Any E P N w0 R ops (fuel + 1) listed k s L := by
  intro a ha
  obtain ⟨h1, h2, h3, h4⟩ := takeB_spec hi ht
  exact anyL_first hi h1 fuel listed a L h4 h3 h2.1 h2.2 (.inl ⟨by simp [Region.wanted, yielded_of ha hj hdj hb, hw], fun w hw => hq a w ha hw⟩) (h _ (ha.put hN v))
/-- .. and where it did not. -/
theorem Any.takeN {fuel : Nat} {listed : Array Bool} {ty : TypeId} {pos : String} {aft : Array Edge} {dd j dj : Nat} {want b : Bool} {op : Op} {oj : Oper} (i : Nat) (hi : ops[i]? = some ⟨some dd, op, ty, pos, aft, some (j, want)⟩) (ht : take0 ops listed i = true) (hN : Nat.blt dd N = true)
    (hj : ops[j]? = some oj) (hdj : oj.dst = some dj) (hb : lk s dj = some (.bool b)) (hw : b ≠ want)
    (h : Any E P N w0 R ops fuel (listed.setIfInBounds i true) k ((dd, undef) :: s) L) : Any E P N w0 R ops (fuel + 1) listed k s L := by
  intro a ha
  obtain ⟨h1, h2, h3⟩ := take0_spec hi ht
  exact anyL_firstA hi h1 fuel listed a L h3 h2.2 (.inr ⟨by simp [Region.wanted, yielded_of ha hj hdj hb, hw], rfl⟩) (h _ (ha.put hN undef))

/-- A guarded operation that looks at no memory. -/
theorem Any.takeAY {fuel : Nat} {listed : Array Bool} {ty : TypeId} {pos : String} {aft : Array Edge} {dd j dj : Nat} {want b : Bool} {op : Op} {oj : Oper} {v : Value} (i : Nat) (hi : ops[i]? = some ⟨some dd, op, ty, pos, aft, some (j, want)⟩) (ht : take0 ops listed i = true) (hN : Nat.blt dd N = true)
    (hj : ops[j]? = some oj) (hdj : oj.dst = some dj) (hb : lk s dj = some (.bool b)) (hw : b = want)
    (hq : ∀ w1, Pure P N w1 s [] ⟨some dd, op, ty, pos, aft, some (j, want)⟩ v) (h : Any E P N w0 R ops fuel (listed.setIfInBounds i true) k ((dd, v) :: s) L) : Any E P N w0 R ops (fuel + 1) listed k s L := by
  intro a ha
  obtain ⟨h1, h2, h3⟩ := take0_spec hi ht
  exact anyL_firstA hi h1 fuel listed a L h3 h2.2 (.inl ⟨by simp [Region.wanted, yielded_of ha hj hdj hb, hw], fun w => (QOp.pure (hq w)) a w ha (Sat.refl w)⟩) (h _ (ha.put hN v))

/-- One operation may come up, of whatever make. -/
def OneL (E : List Nat) (P : Program) (N : Nat) (w0 : World) (R : Exit → Act → World → Prop) (ops : Array Oper) (fuel : Nat) (listed : Array Bool) (k : List It) (s : Fr) (L : List Ent) (i : Nat) : Prop :=
  ∀ a, FrOK N s a → opL P w0 ops i (fun a' L' => (obB E ops i = true ∨ Ext L L') ∧ anyL E P w0 ops (fun a' L' => ∃ s', FrOK N s' a' ∧ Run P N w0 R k s' L') fuel (listed.setIfInBounds i true) a' L') a L

theorem Any.one {fuel : Nat} {listed : Array Bool} (i : Nat) (hr : Region.ready .any ops listed = [i]) (h : OneL E P N w0 R ops fuel listed k s L i) : Any E P N w0 R ops (fuel + 1) listed k s L :=
  fun a ha => ⟨fun h0 => (by rw [hr] at h0; cases h0), fun j hj => by
    rw [hr] at hj
    have e : j = i := by simpa using hj
    subst e
    exact h a ha⟩
theorem Any.two {fuel : Nat} {listed : Array Bool} (i j : Nat) (hr : Region.ready .any ops listed = [i, j]) (h : OneL E P N w0 R ops fuel listed k s L i) (h' : OneL E P N w0 R ops fuel listed k s L j) : Any E P N w0 R ops (fuel + 1) listed k s L :=
  fun a ha => ⟨fun h0 => (by rw [hr] at h0; cases h0), fun m hm => by
    rw [hr] at hm
    rcases List.mem_cons.1 hm with e | hm
    · subst e; exact h a ha
    · have e : m = j := by simpa using hm
      subst e
      exact h' a ha⟩
theorem Any.three {fuel : Nat} {listed : Array Bool} (i j l : Nat) (hr : Region.ready .any ops listed = [i, j, l]) (h : OneL E P N w0 R ops fuel listed k s L i) (h' : OneL E P N w0 R ops fuel listed k s L j) (h'' : OneL E P N w0 R ops fuel listed k s L l) : Any E P N w0 R ops (fuel + 1) listed k s L :=
  fun a ha => ⟨fun h0 => (by rw [hr] at h0; cases h0), fun m hm => by
    rw [hr] at hm
    rcases List.mem_cons.1 hm with e | hm
    · subst e; exact h a ha
    · rcases List.mem_cons.1 hm with e | hm
      · subst e; exact h' a ha
      · have e : m = l := by simpa using hm
        subst e
        exact h'' a ha⟩

theorem Any.four {fuel : Nat} {listed : Array Bool} (i j l m : Nat) (hr : Region.ready .any ops listed = [i, j, l, m]) (hA : OneL E P N w0 R ops fuel listed k s L i) (hB : OneL E P N w0 R ops fuel listed k s L j) (hC : OneL E P N w0 R ops fuel listed k s L l) (hD : OneL E P N w0 R ops fuel listed k s L m) : Any E P N w0 R ops (fuel + 1) listed k s L :=
  fun a ha => ⟨fun h0 => (by rw [hr] at h0; cases h0), fun q hq => by
    rw [hr] at hq
    rcases List.mem_cons.1 hq with e | hq
    · subst e; exact hA a ha
    · rcases List.mem_cons.1 hq with e | hq
      · subst e; exact hB a ha
      · rcases List.mem_cons.1 hq with e | hq
        · subst e; exact hC a ha
        · have e : q = m := by simpa using hq
          subst e
          exact hD a ha⟩
/-- A loud operation that leaves what is owned. -/
theorem OneL.loud {fuel : Nat} {listed : Array Bool} {ty : TypeId} {pos : String} {aft : Array Edge} {dd i : Nat} {op : Op} {Q : Value → List Ent → Prop} (hi : ops[i]? = some ⟨some dd, op, ty, pos, aft, none⟩) (hN : Nat.blt dd N = true)
    (hp : Loud P N w0 s L ⟨some dd, op, ty, pos, aft, none⟩ Q) (h : ∀ v L', Q v L' → (obB E ops i = true ∨ Ext L L') ∧ Any E P N w0 R ops fuel (listed.setIfInBounds i true) k ((dd, v) :: s) L') : OneL E P N w0 R ops fuel listed k s L i := by
  intro a ha
  unfold opL
  rw [hi]
  simp only []
  rw [if_pos (by simp [Region.wanted])]
  intro w hw
  have h1 := hp a w ha hw
  generalize (execOp a.eval _).run P w = r at h1
  cases r with
  | ok n w' =>
    cases n <;> simp only [uponQ] at h1
    case value v => obtain ⟨L', h2, h3⟩ := h1; exact ⟨L', h2, (h v L' h3).1, (h v L' h3).2 _ (ha.put hN v)⟩
    case enter f args =>
      refine Calls.mono h1 ?_
      rintro e w'' ⟨v, L', rfl, h2, h3⟩
      exact ⟨v, L', rfl, h2, (h v L' h3).1, (h v L' h3).2 _ (ha.put hN v)⟩
  | halt x w' => simp only [uponQ] at h1
/-- .. that is guarded, and wanted. -/
theorem OneL.loudY {fuel : Nat} {listed : Array Bool} {ty : TypeId} {pos : String} {aft : Array Edge} {dd i j dj : Nat} {want b : Bool} {op : Op} {oj : Oper} {Q : Value → List Ent → Prop} (hi : ops[i]? = some ⟨some dd, op, ty, pos, aft, some (j, want)⟩) (hN : Nat.blt dd N = true) (hj : ops[j]? = some oj) (hdj : oj.dst = some dj) (hb : lk s dj = some (.bool b)) (hbw : b = want)
    (hp : Loud P N w0 s L ⟨some dd, op, ty, pos, aft, some (j, want)⟩ Q) (h : ∀ v L', Q v L' → (obB E ops i = true ∨ Ext L L') ∧ Any E P N w0 R ops fuel (listed.setIfInBounds i true) k ((dd, v) :: s) L') : OneL E P N w0 R ops fuel listed k s L i := by
  intro a ha
  unfold opL
  rw [hi]
  simp only []
  rw [if_pos (by simp [Region.wanted, yielded_of ha hj hdj hb, hbw])]
  intro w hw
  have h1 := hp a w ha hw
  generalize (execOp a.eval _).run P w = r at h1
  cases r with
  | ok n w' =>
    cases n <;> simp only [uponQ] at h1
    case value v => obtain ⟨L', h2, h3⟩ := h1; exact ⟨L', h2, (h v L' h3).1, (h v L' h3).2 _ (ha.put hN v)⟩
    case enter f args =>
      refine Calls.mono h1 ?_
      rintro e w'' ⟨v, L', rfl, h2, h3⟩
      exact ⟨v, L', rfl, h2, (h v L' h3).1, (h v L' h3).2 _ (ha.put hN v)⟩
  | halt x w' => simp only [uponQ] at h1
/-- An operation that leaves all as it is. -/
theorem OneL.q {fuel : Nat} {listed : Array Bool} {ty : TypeId} {pos : String} {aft : Array Edge} {dd i : Nat} {op : Op} {v : Value} (hi : ops[i]? = some ⟨some dd, op, ty, pos, aft, none⟩) (hN : Nat.blt dd N = true)
    (hp : QOp P N w0 s L ⟨some dd, op, ty, pos, aft, none⟩ v) (h : Any E P N w0 R ops fuel (listed.setIfInBounds i true) k ((dd, v) :: s) L) : OneL E P N w0 R ops fuel listed k s L i :=
  OneL.loud hi hN hp.loud (by rintro _ _ ⟨rfl, rfl⟩; exact ⟨.inr (Ext.refl _), h⟩)
/-- .. that is guarded, and wanted. -/
theorem OneL.qY {fuel : Nat} {listed : Array Bool} {ty : TypeId} {pos : String} {aft : Array Edge} {dd i j dj : Nat} {want b : Bool} {op : Op} {oj : Oper} {v : Value} (hi : ops[i]? = some ⟨some dd, op, ty, pos, aft, some (j, want)⟩) (hN : Nat.blt dd N = true)
    (hj : ops[j]? = some oj) (hdj : oj.dst = some dj) (hb : lk s dj = some (.bool b)) (hw : b = want)
    (hp : QOp P N w0 s L ⟨some dd, op, ty, pos, aft, some (j, want)⟩ v) (h : Any E P N w0 R ops fuel (listed.setIfInBounds i true) k ((dd, v) :: s) L) : OneL E P N w0 R ops fuel listed k s L i := by
  intro a ha
  unfold opL
  rw [hi]
  simp only []
  rw [if_pos (by simp [Region.wanted, yielded_of ha hj hdj hb, hw])]
  intro w hw
  have h1 := hp a w ha hw
  generalize (execOp a.eval _).run P w = r at h1
  cases r with
  | ok n w' =>
    cases n <;> simp only [Yld] at h1
    case value u => obtain ⟨rfl, rfl⟩ := h1; exact ⟨L, hw, .inr (Ext.refl L), h _ (ha.put hN u)⟩
    case enter f args =>
      obtain ⟨rfl, h2⟩ := h1
      refine Calls.mono h2 ?_
      rintro e w'' ⟨rfl, h3⟩
      exact ⟨v, L, rfl, by simpa using hw.trans h3, .inr (Ext.refl L), h _ (ha.put hN v)⟩
  | halt x w' => simp only [Yld] at h1
/-- A store. -/
theorem OneL.store {fuel : Nat} {listed : Array Bool} {ty : TypeId} {pos : String} {aft : Array Edge} {i : Nat} {op : Op} {L' : List Ent} (hi : ops[i]? = some ⟨none, op, ty, pos, aft, none⟩)
    (hp : Stores P N w0 s L ⟨none, op, ty, pos, aft, none⟩ L') (hs : obB E ops i = true) (h : Any E P N w0 R ops fuel (listed.setIfInBounds i true) k s L') : OneL E P N w0 R ops fuel listed k s L i := by
  intro a ha
  unfold opL
  rw [hi]
  simp only []
  rw [if_pos (by simp [Region.wanted])]
  intro w hw
  obtain ⟨w', hr, hw'⟩ := hp a w ha hw
  rw [hr]
  exact ⟨L', hw', .inl hs, h _ ha⟩
theorem Any.done {fuel : Nat} {listed : Array Bool} (hr : Region.ready .any ops listed = []) (h : Run P N w0 R k s L) : Any E P N w0 R ops fuel listed k s L := by
  intro a ha
  cases fuel with
  | zero => exact ⟨hr, s, ha, h⟩
  | succ n => exact ⟨fun _ => ⟨s, ha, h⟩, fun i hi => by rw [hr] at hi; cases hi⟩

theorem Any.split {fuel : Nat} {listed : Array Bool} {b : Bool} (_hb : b = b) (ht : b = true → Any E P N w0 R ops fuel listed k s L) (hf : b = false → Any E P N w0 R ops fuel listed k s L) : Any E P N w0 R ops fuel listed k s L := by
  cases b
  · exact hf rfl
  · exact ht rfl
/-- The test that slot n holds. -/
theorem lk_bool {n : Nat} {b : Bool} (_h : lk s n = some (.bool b)) : b = b := rfl

theorem Ops.guardY {all : Array Oper} {rest : List Oper} {ty : TypeId} {pos : String} {aft : Array Edge} {dd j dj : Nat} {want b : Bool} {op : Op} {oj : Oper} (hj : all[j]? = some oj) (hdj : oj.dst = some dj) (hb : lk s dj = some (.bool b)) (hw : b = want)
    (ht : Ops P N w0 R all (⟨some dd, op, ty, pos, aft, none⟩ :: rest) k s L) : Ops P N w0 R all (⟨some dd, op, ty, pos, aft, some (j, want)⟩ :: rest) k s L := by
  intro a w ha hw'
  have h1 := ht a w ha hw'
  unfold wpList at h1 ⊢
  rw [if_pos (by simp [Region.wanted])] at h1
  rw [if_pos (by simp [Region.wanted, yielded_of ha hj hdj hb, hw])]
  exact h1
theorem Ops.guardN {all : Array Oper} {rest : List Oper} {ty : TypeId} {pos : String} {aft : Array Edge} {dd j dj : Nat} {want b : Bool} {op : Op} {oj : Oper} (hN : Nat.blt dd N = true) (hj : all[j]? = some oj) (hdj : oj.dst = some dj) (hb : lk s dj = some (.bool b)) (hw : b ≠ want)
    (hf : Ops P N w0 R all rest k ((dd, undef) :: s) L) : Ops P N w0 R all (⟨some dd, op, ty, pos, aft, some (j, want)⟩ :: rest) k s L := by
  intro a w ha hw'
  unfold wpList
  rw [if_neg (by simp [Region.wanted, yielded_of ha hj hdj hb, hw])]
  exact hf _ _ (ha.put hN undef) hw'
theorem Run.condE {c : Operand} {x y : Code} {b : Bool} (hc : ev s c = some (.bool b)) (hb : b = true) (ht : Run P N w0 R (.code x :: k) s L) : Run P N w0 R (.code (.cond c x y) :: k) s L :=
  Run.cond hc (fun _ => ht) (fun h => by rw [hb] at h; cases h)
theorem Run.condEF {c : Operand} {x y : Code} {b : Bool} (hc : ev s c = some (.bool b)) (hb : b = false) (hf : Run P N w0 R (.code y :: k) s L) : Run P N w0 R (.code (.cond c x y) :: k) s L :=
  Run.cond hc (fun h => by rw [hb] at h; cases h) (fun _ => hf)
/-- Two ways meet again. -/
theorem Run.mid {c : Code} (Q : Fr → List Ent → Prop) (h1 : Run P N w0 R (.code c :: .asrt Q :: k) s L) (h2 : ∀ s' L', Q s' L' → Run P N w0 R k s' L') : Run P N w0 R (.code c :: k) s L := by
  intro a w ha hw
  refine wp_mono (h1 a w ha hw) fun e a' w' hq => ?_
  cases e with
  | normal => obtain ⟨s', L', ha', hw', hQ⟩ := hq; exact h2 s' L' hQ a' w' ha' hw'
  | exit id => exact hq
  | goto l => exact hq
  | ret => exact hq
  | panic ch => exact hq
  | outgrown => exact hq
theorem Bool.eq_false_of_ne {b : Bool} (h : b ≠ true) : b = false := by simpa using h
theorem Bool.eq_true_of_ne {b : Bool} (h : b ≠ false) : b = true := by simpa using h
theorem step_lt {p : Nat → Prop} {k j : Nat} (hj : j < k + 1) (h : ∀ j, j < k → p j) (hk : p k) : p j := by
  rcases Nat.lt_succ_iff_lt_or_eq.1 hj with h' | rfl
  · exact h j h'
  · exact hk
theorem Sat.addNil {w : World} (hw : Sat w0 w L) (t size : Nat) : Sat w0 w (.row t size (.slice none 0 0) 0 [] :: L) :=
  ⟨hw.below, fun e he => by
    rcases List.mem_cons.1 he with rfl | he
    · exact World.ownsRow_nil w _ t size
    · exact hw.own e he, List.pairwise_cons.2 ⟨fun _ _ => .inl rfl, hw.apart⟩⟩
/-- A nil slice counts as a row of the call's own. -/
theorem Run.addNil (t size : Nat) (h : Run P N w0 R k s (.row t size (.slice none 0 0) 0 [] :: L)) : Run P N w0 R k s L := fun a w ha hw => h a w ha (hw.addNil t size)
theorem Ops.have_ {φ : Prop} {all : Array Oper} {rest : List Oper} (h : ∀ w, Sat w0 w L → φ) (hk : φ → Ops P N w0 R all rest k s L) : Ops P N w0 R all rest k s L := fun a w ha hw => hk (h w hw) a w ha hw
theorem Run.have_ {φ : Prop} (h : ∀ w, Sat w0 w L → φ) (hk : φ → Run P N w0 R k s L) : Run P N w0 R k s L := fun a w ha hw => hk (h w hw) a w ha hw
theorem row_one {w : World} {t size n : Nat} {v : Value} {xs : List Value} (i : Nat) (hw : Sat w0 w L) (h : L[i]? = some (.row t size v n xs)) : v.oneCell' = true := by
  obtain ⟨_, A, c, rfl, _⟩ := Rd.of_own (hw.own _ (List.mem_of_getElem? h))
  rfl
theorem Rd.one {w : World} {size n : Nat} {v : Value} {xs : List Value} (h : Rd w v size n xs) : v.oneCell' = true := by
  obtain ⟨_, A, c, rfl, _⟩ := h
  rfl
theorem Ext.snoc (o r : Ent) (I : List Ent) : Ext (o :: (I ++ [r])) (r :: o :: I) := ⟨[], by
  rw [List.append_nil]
  exact ((List.perm_append_comm (l₁ := I) (l₂ := [r])).cons o).trans (List.Perm.swap r o I)⟩
theorem set_snoc {us zs : List Value} {u : Value} {k : Nat} (h : us.length = k) (hk : k < zs.length) : us ++ [u] ++ zs.drop (k + 1) = (us ++ zs.drop k).set k u := by
  subst h
  rw [List.set_append, if_neg (by omega), Nat.sub_self, List.drop_eq_getElem_cons hk, List.set_cons_zero]
  simp
theorem Run.loop2 {X Y : Type} {c : Code} (fr : X → Y → Fr) (hp : X → Y → List Ent) (inv : X → Y → Prop) (μ : X → Y → Nat) (x0 : X) (y0 : Y) (h0 : inv x0 y0) (hs : Sub (fr x0 y0) s) (hL : Ext (hp x0 y0) L)
    (round : ∀ x y, inv x y → Run P N w0 R (.code c :: .asrt (fun s' L' => ∃ x' y', (inv x' y' ∧ μ x' y' < μ x y) ∧ Sub (fr x' y') s' ∧ Ext (hp x' y') L') :: k) (fr x y) (hp x y)) :
    Run P N w0 R (.code (.loop c) :: k) s L := by
  refine Run.loop (X := X × Y) (fun p => fr p.1 p.2) (fun p => hp p.1 p.2) (fun p => inv p.1 p.2) (fun p => μ p.1 p.2) (x0, y0) h0 hs hL ?_
  rintro ⟨x, y⟩ hi a w ha hw
  refine wp_mono (round x y hi a w ha hw) fun e a' w' hq => ?_
  cases e with
  | normal => obtain ⟨s', L', ha', hw', x', y', h⟩ := hq; exact ⟨s', L', ha', hw', (x', y'), h⟩
  | exit id => exact hq
  | goto l => exact hq
  | ret => exact hq
  | panic ch => exact hq
  | outgrown => exact hq
theorem Run.loop3 {X Y Z : Type} {c : Code} (fr : X → Y → Z → Fr) (hp : X → Y → Z → List Ent) (inv : X → Y → Z → Prop) (μ : X → Y → Z → Nat) (x0 : X) (y0 : Y) (z0 : Z) (h0 : inv x0 y0 z0) (hs : Sub (fr x0 y0 z0) s) (hL : Ext (hp x0 y0 z0) L)
    (round : ∀ x y z, inv x y z → Run P N w0 R (.code c :: .asrt (fun s' L' => ∃ x' y' z', (inv x' y' z' ∧ μ x' y' z' < μ x y z) ∧ Sub (fr x' y' z') s' ∧ Ext (hp x' y' z') L') :: k) (fr x y z) (hp x y z)) :
    Run P N w0 R (.code (.loop c) :: k) s L := by
  refine Run.loop2 (X := X) (Y := Y × Z) (fun x p => fr x p.1 p.2) (fun x p => hp x p.1 p.2) (fun x p => inv x p.1 p.2) (fun x p => μ x p.1 p.2) x0 (y0, z0) h0 hs hL ?_
  rintro x ⟨y, z⟩ hi a w ha hw
  refine wp_mono (round x y z hi a w ha hw) fun e a' w' hq => ?_
  cases e with
  | normal => obtain ⟨s', L', ha', hw', x', y', z', h⟩ := hq; exact ⟨s', L', ha', hw', x', (y', z'), h⟩
  | exit id => exact hq
  | goto l => exact hq
  | ret => exact hq
  | panic ch => exact hq
  | outgrown => exact hq
theorem Run.loop4 {X Y Z V : Type} {c : Code} (fr : X → Y → Z → V → Fr) (hp : X → Y → Z → V → List Ent) (inv : X → Y → Z → V → Prop) (μ : X → Y → Z → V → Nat) (x0 : X) (y0 : Y) (z0 : Z) (v0 : V) (h0 : inv x0 y0 z0 v0) (hs : Sub (fr x0 y0 z0 v0) s) (hL : Ext (hp x0 y0 z0 v0) L)
    (round : ∀ x y z v, inv x y z v → Run P N w0 R (.code c :: .asrt (fun s' L' => ∃ x' y' z' v', (inv x' y' z' v' ∧ μ x' y' z' v' < μ x y z v) ∧ Sub (fr x' y' z' v') s' ∧ Ext (hp x' y' z' v') L') :: k) (fr x y z v) (hp x y z v)) :
    Run P N w0 R (.code (.loop c) :: k) s L := by
  refine Run.loop3 (X := X) (Y := Y) (Z := Z × V) (fun x y p => fr x y p.1 p.2) (fun x y p => hp x y p.1 p.2) (fun x y p => inv x y p.1 p.2) (fun x y p => μ x y p.1 p.2) x0 y0 (z0, v0) h0 hs hL ?_
  rintro x y ⟨z, v⟩ hi a w ha hw
  refine wp_mono (round x y z v hi a w ha hw) fun e a' w' hq => ?_
  cases e with
  | normal => obtain ⟨s', L', ha', hw', x', y', z', v', h⟩ := hq; exact ⟨s', L', ha', hw', x', y', (z', v'), h⟩
  | exit id => exact hq
  | goto l => exact hq
  | ret => exact hq
  | panic ch => exact hq
  | outgrown => exact hq
/-- A slot's value, spelt otherwise. -/
theorem FrOK.setv {a : Act} (ha : FrOK N s a) {n : Nat} {v v' : Value} (h : lk s n = some v) (e : v = v') : FrOK N ((n, v') :: s) a := by
  subst e
  refine ⟨ha.size, ha.defers, fun m u hu => ?_⟩
  simp only [lk] at hu
  cases hb : Nat.beq n m with
  | true =>
    rw [hb] at hu
    have e1 : v = u := Option.some.inj hu
    have e2 : n = m := Nat.eq_of_beq_eq_true hb
    subst e1 e2
    exact ha.slot n v h
  | false => rw [hb] at hu; exact ha.slot m u hu
theorem Ops.setv {all : Array Oper} {rest : List Oper} (n : Nat) {v v' : Value} (h : lk s n = some v) (e : v = v') (hk : Ops P N w0 R all rest k ((n, v') :: s) L) : Ops P N w0 R all rest k s L := fun a w ha hw => hk a w (ha.setv h e) hw
theorem Run.setv (n : Nat) {v v' : Value} (h : lk s n = some v) (e : v = v') (hk : Run P N w0 R k ((n, v') :: s) L) : Run P N w0 R k s L := fun a w ha hw => hk a w (ha.setv h e) hw
theorem Ext.eq {A B : List Ent} (h : A = B) : Ext A B := h ▸ Ext.refl A

/-- The first k elements written, the rest as it was made. -/
def fillA {α : Type} (f : α → List Value) (m : Nat) (zs : List Value) (l : List α) (k : Nat) : List Value := (l.take k).flatMap f ++ zs.drop (k * m)
theorem fillA_zero {α : Type} (f : α → List Value) (m : Nat) (zs : List Value) (l : List α) : fillA f m zs l 0 = zs := by simp [fillA]
theorem fillA_full {α : Type} {f : α → List Value} {m : Nat} {zs : List Value} {l : List α} {k : Nat} (hz : zs.length = l.length * m) (hk : k = l.length) : fillA f m zs l k = l.flatMap f := by
  subst hk
  simp [fillA, ← hz]
theorem length_fillA {α : Type} {f : α → List Value} {m : Nat} (hf : ∀ x, (f x).length = m) {zs : List Value} {l : List α} {k : Nat} (hz : zs.length = l.length * m) (hk : k ≤ l.length) : (fillA f m zs l k).length = l.length * m := by
  unfold fillA
  rw [List.length_append, length_flatMap hf, List.length_take, List.length_drop, hz, Nat.min_eq_left hk, ← Nat.sub_mul, ← Nat.add_mul]
  congr 1
  omega
theorem fillA_step {α : Type} {f : α → List Value} {m : Nat} (hf : ∀ x, (f x).length = m) {zs : List Value} {l : List α} {k : Nat} (d : α) (hk : k < l.length) : over (fillA f m zs l k) (k * m) (f (l.getD k d)) = fillA f m zs l (k + 1) := by
  have h1 : ((l.take k).flatMap f).length = k * m := by rw [length_flatMap hf, List.length_take, Nat.min_eq_left (by omega)]
  unfold over fillA
  rw [List.take_append_of_le_length (by omega), List.take_of_length_le (by omega), hf, List.drop_append, List.drop_of_length_le (by omega), h1, List.nil_append, List.drop_drop]
  have e : l.take (k + 1) = l.take k ++ [l.getD k d] := by rw [List.take_add_one, getD_some hk d]; rfl
  rw [e, List.flatMap_append]
  simp only [List.flatMap_cons, List.flatMap_nil, List.append_nil]
  congr 2
  rw [Nat.add_mul]
  omega
theorem fillA_set {α : Type} {g : α → Value} {zs : List Value} {l : List α} {k : Nat} (d : α) (hk : k < l.length) (hz : zs.length = l.length) : (fillA (fun x => [g x]) 1 zs l k).set k (g (l.getD k d)) = fillA (fun x => [g x]) 1 zs l (k + 1) := by
  have h := fillA_step (f := fun x => [g x]) (m := 1) (fun _ => rfl) (zs := zs) d hk
  rw [Nat.mul_one] at h
  have hl := length_fillA (f := fun x => [g x]) (m := 1) (fun _ => rfl) (zs := zs) (l := l) (k := k) (by omega) (by omega)
  rw [← h, over_one]
  rw [hl]
  omega
theorem flatMap_one {α : Type} (g : α → Value) (l : List α) : l.flatMap (fun x => [g x]) = l.map g := by
  induction l with
  | nil => rfl
  | cons x l ih => simp [ih]
theorem length_made (z : Array Value) (n : Nat) : (madeCells z n).toList.length = n := by simp [madeCells]
theorem ext_getD {α : Type} (d : α) {l m : List α} (hl : l.length = m.length) (h : ∀ j, j < l.length → l.getD j d = m.getD j d) : l = m := by
  apply List.ext_getElem hl
  intro i h1 h2
  have := h i h1
  simpa [List.getD, h1, h2] using this
theorem dT {p : Prop} [Decidable p] (h : decide p = true) : p := of_decide_eq_true h
theorem dF {p : Prop} [Decidable p] (h : decide p = false) : ¬ p := of_decide_eq_false h
theorem nT {p : Prop} [Decidable p] (h : (!decide p) = true) : ¬ p := by simpa using h
theorem nF {p : Prop} [Decidable p] (h : (!decide p) = false) : p := by simpa using h
theorem bT {b : Bool} (h : (!b) = true) : b = false := by simpa using h
theorem bF {b : Bool} (h : (!b) = false) : b = true := by simpa using h
theorem allOne {l : List Value} (h : l.all Value.oneCell' = true) : ∀ z ∈ l, z.oneCell' = true := fun z hz => List.all_eq_true.1 h z hz
theorem one1 {u : Value} (h : u.oneCell' = true) : ∀ z ∈ u.cells.toList, z.oneCell' = true := by
  rw [cells_one h]
  simpa using h
end
end Go.AW
