/- Contracts of functions, printed by program from annotations. -/
import Derived.Test.YtmfinopdokkjcaaAwv
import Derived.Test.YtmfinopdokkjcaaMpC
import Derived.Test.YtmfinopdokkjcaaTab
namespace Go.Proofs.Ytmfinopdokkjcaa
open Go Go.AW Go.RowKit
set_option linter.unusedVariables false
set_option linter.unusedSimpArgs false

/-- the sign of a kind -/
def chS (k : Int) : ByteArray := (strOf [43, 124, 45]).extract k.toNat (k + 1).toNat
def ptTo (base : ByteArray) (l : List Int) : Nat → ByteArray
  | 0 => base
  | k + 1 => ptTo base l k ++ chS (l.getD k 0)
def ptB (a b : Int) : ByteArray := ((decB a ++ strOf [120]) ++ decB b) ++ strOf [58]
def ptT (p : Int × Int × List Int) : ByteArray := ptTo (ptB p.1 p.2.1) p.2.2 p.2.2.length
theorem chS_size {k : Int} (h0 : 0 ≤ k) (h1 : k ≤ 2) : (chS k).size = 1 := by
  have : k = 0 ∨ k = 1 ∨ k = 2 := by omega
  rcases this with rfl | rfl | rfl <;> rfl
theorem ptB_size {a b : Int} (ha : -1000 ≤ a ∧ a ≤ 1000) (hb : -1000 ≤ b ∧ b ≤ 1000) : (ptB a b).size ≤ 60 := by
  have h1 := decB_size (n := a) (by omega) (by omega)
  have h2 := decB_size (n := b) (by omega) (by omega)
  have h3 : (strOf [120]).size = 1 := rfl
  have h4 : (strOf [58]).size = 1 := rfl
  unfold ptB
  rw [ByteArray.size_append, ByteArray.size_append, ByteArray.size_append]
  omega
theorem ptTo_size {base : ByteArray} {l : List Int} (hl : ∀ x ∈ l, 0 ≤ x ∧ x ≤ 2) : ∀ k, k ≤ l.length → (ptTo base l k).size = base.size + k
  | 0, _ => rfl
  | k + 1, h => by
    have ih := ptTo_size (base := base) hl k (by omega)
    have hm := hl _ (mem_getD 0 (show k < l.length by omega))
    show (ptTo base l k ++ chS (l.getD k 0)).size = _
    rw [ByteArray.size_append, ih, chS_size hm.1 hm.2]
    omega
/-- the canonical panel of a number, and the texts so far -/
def caP (a b : Int) (i : Nat) : Int × Int × List Int := caTo a b (pdig i (inn a b)) 7
def keyA (a b : Int) : Nat → List ByteArray
  | 0 => []
  | k + 1 => addK (keyA a b k) (ptT (caP a b k))
def cnN (a b : Int) : Int := if pcE a b = 0 then ((keyA a b (many a b)).length : Int) else 0
theorem cnN_bad {a b : Int} (h : ¬ pcE a b = 0) : cnN a b = 0 := by unfold cnN; rw [if_neg h]
theorem cnN_ok {a b : Int} (h : pcE a b = 0) : cnN a b = ((keyA a b (many a b)).length : Int) := by unfold cnN; rw [if_pos h]
theorem caP_ok {a b : Int} (hs : SizeOk a b) (i : Nat) : okP (caP a b i).1 (caP a b i).2.1 (caP a b i).2.2 = true ∧ (caP a b i).2.2.length = inn a b := by
  obtain ⟨s, h1, h2⟩ := caTo_img a b (pdig i (inn a b)) 7
  refine ⟨?_, caTo_len a b _ 7⟩
  unfold caP
  rw [h2]
  exact mapL_ok (by omega) (okP_pdig hs i)

set_option maxRecDepth 4000 in
/-- impl.panelText -/
theorem f_i_panelText (w : World) (a : Int) (b : Int) (v : Value) (l : List Int) (hv : Rd w v 1 l.length (ints l)) (hk : okP a b l = true) : RetV Try.prog 112 [.agg #[.int .i64 a, .int .i64 b, v]] w (.string (ptT (a, b, l))) := by
  have hs := okP_size hk
  obtain ⟨hs1, hs2, hs3, hs4⟩ := id hs
  have hib := (inn_eq hs).2.1
  have hli := okP_inn hk
  obtain ⟨-, -, hx⟩ := okP_spec hk
  have hpb := ptB_size (a := a) (b := b) (by omega) (by omega)
  have hda := decB_size (n := a) (by omega) (by omega)
  have hdb := decB_size (n := b) (by omega) (by omega)
  refine Ret.enter Try.func112 rfl Try.ntmps112 rfl ?_
  refine Run.seq ?_
  refine Run.region ?_
  refine Ops.go rfl (Loud.box rfl rfl) ?_
  rintro _ _ ⟨b1, rfl, rfl⟩
  refine Ops.pure rfl (Pure.assign rfl) ?_
  refine Ops.nil ?_
  refine Run.seq ?_
  refine AnyK.start ([.box b1 35 [.int .i64 a, .int .i64 b, v]]) follows (Ext.refl _) ?_
  refine AnyK.take 0 rfl (by kernel_rfl) rfl (QOp.pure (Pure.fieldAddrB fld35_0 rfl)) ?_
  refine AnyK.take 1 rfl (by kernel_rfl) rfl (QOp.pure (Pure.ldB 0 rfl cell2 rfl rfl)) ?_
  refine AnyK.take 2 rfl (by kernel_rfl) rfl (QOp.call fn130 rfl (fun w hw => f_i_Decimal w a (by omega) (by omega))) ?_
  refine AnyK.take 3 rfl (by kernel_rfl) rfl (QOp.pure (Pure.cat rfl rfl (by first | omega | (simp only [ByteArray.size_append, sz_lit1]; omega)))) ?_
  refine AnyK.take 4 rfl (by kernel_rfl) rfl (QOp.pure (Pure.fieldAddrB fld35_1 rfl)) ?_
  refine AnyK.take 5 rfl (by kernel_rfl) rfl (QOp.pure (Pure.ldB 0 rfl cell2 rfl rfl)) ?_
  refine AnyK.take 6 rfl (by kernel_rfl) rfl (QOp.call fn130 rfl (fun w hw => f_i_Decimal w b (by omega) (by omega))) ?_
  refine AnyK.take 7 rfl (by kernel_rfl) rfl (QOp.pure (Pure.cat rfl rfl (by first | omega | (simp only [ByteArray.size_append, sz_lit1]; omega)))) ?_
  refine AnyK.take 8 rfl (by kernel_rfl) rfl (QOp.pure (Pure.cat rfl rfl (by first | omega | (simp only [ByteArray.size_append, sz_lit1]; omega)))) ?_
  refine AnyK.take 9 rfl (by kernel_rfl) rfl (QOp.pure (Pure.assign rfl)) ?_
  refine AnyK.done (by kernel_rfl) ?_
  refine Run.seq ?_
  refine Run.seq ?_
  refine Run.region ?_
  refine Ops.pure rfl (Pure.fieldAddrB fld35_2 rfl) ?_
  refine Ops.pure rfl (Pure.ldB 0 rfl cell32 rfl rfl) ?_
  refine Ops.pure rfl (Pure.len sl32 (RdL.old hv) rfl) ?_
  refine Ops.pure rfl (Pure.move rfl) ?_
  refine Ops.nil ?_
  refine Run.block ?_
  refine Run.loop (X := Nat) (fun k => [(3, .string (ptTo (ptB a b) l k)), (16, v), (17, .int .i64 l.length), (18, .int .i64 k)]) (fun k => []) (fun k => k ≤ l.length) (fun k => l.length - k) 0 ?_ ?_ ?_ ?_
  · exact Nat.zero_le _
  · exact ⟨rfl, rfl, rfl, rfl, trivial⟩
  · exact Ext.nil _
  · intro k hinv0
    have hts := ptTo_size (base := ptB a b) hx k hinv0
    have hkx := fun (h : k < l.length) => hx _ (mem_getD 0 h)
    have hcz := fun (h : k < l.length) => chS_size (hkx h).1 (hkx h).2
    refine Run.seq ?_
    refine Run.region ?_
    refine Ops.pure rfl (Pure.lss rfl rfl) ?_
    refine Ops.nil ?_
    refine Run.seq ?_
    refine Run.cond rfl (fun c19 => ?_) (fun c19 => ?_)
    · skip
      replace c19 := dT c19
      refine Run.skip ?_
      refine Run.seq ?_
      refine Run.block ?_
      refine Run.seq ?_
      refine Run.region ?_
      refine Ops.pure rfl (Pure.idx1N sl32 (RdL.old hv) rfl rfl (by first | assumption | omega | (simp; omega))) ?_
      refine Ops.pure rfl (Pure.ld cell2 rfl (RdL.old hv) (by first | exact ints_get (by omega) | exact bools_get (by omega) | exact strs_get (by omega) | exact vals_get (by first | omega | (simp; omega)))) ?_
      refine Ops.pure rfl (Pure.assign rfl) ?_
      refine Ops.nil ?_
      have hkx2 := hkx (by omega)
      have hcz2 := hcz (by omega)
      refine Run.region ?_
      refine Ops.pure rfl (Pure.move rfl) ?_
      refine Ops.pure rfl (Pure.move rfl) ?_
      refine Ops.pure rfl (Pure.move rfl) ?_
      refine Ops.pure rfl (Pure.add rfl rfl (by omega) (by omega)) ?_
      have hl3 : ({ data := #[43, 124, 45] } : ByteArray).size = 3 := rfl
      have hcc : (({ data := #[43, 124, 45] } : ByteArray).extract (l.getD k 0).toNat (l.getD k 0 + 1).toNat).size = 1 := hcz2
      refine Ops.pure rfl (Pure.strLH und9 rfl rfl rfl (by omega) (by omega) (by omega)) ?_
      refine Ops.pure rfl (Pure.cat rfl rfl (by first | omega | (simp only [ByteArray.size_append, sz_lit1]; omega))) ?_
      refine Ops.pure rfl (Pure.assign rfl) ?_
      refine Ops.nil ?_
      refine Run.blk ?_
      refine Run.region ?_
      refine Ops.pure rfl (Pure.add rfl rfl (by omega) (by omega)) ?_
      refine Ops.pure rfl (Pure.move rfl) ?_
      refine Ops.nil ?_
      refine Run.asrt ?_
      exact ⟨k + 1, ⟨by omega, by omega⟩, ⟨rfl, rfl, rfl, rfl, trivial⟩, Ext.nil _⟩
    · skip
      replace c19 := dF c19
      refine Run.exit rfl ?_
      refine Run.seq ?_
      have e : k = l.length := by omega
      subst e
      refine Run.region ?_
      refine Ops.pure rfl (Pure.move rfl) ?_
      refine Ops.pure rfl (Pure.assign rfl) ?_
      refine Ops.nil ?_
      refine Run.ret1 rfl rfl ?_
      rfl

set_option maxRecDepth 4000 in
set_option maxHeartbeats 800000 in
/-- impl.CanonicalCount -/
theorem f_i_CanonicalCount (w : World) (a : Int) (b : Int) (a0 : -9223372036854775808 ≤ a) (a1 : a ≤ 9223372036854775807) (b0 : -9223372036854775808 ≤ b) (b1 : b ≤ 9223372036854775807) : RetV Try.prog 30 [.int .i64 a, .int .i64 b] w (.tuple #[.int .i64 (cnN a b), .int .i64 (pcE a b)]) := by
  refine Ret.enter Try.func30 rfl Try.ntmps30 rfl ?_
  refine Run.seq ?_
  refine Run.region ?_
  refine Ops.pure rfl (Pure.assign rfl) ?_
  refine Ops.pure rfl (Pure.assign rfl) ?_
  refine Ops.nil ?_
  refine Run.seq ?_
  refine Run.region ?_
  refine Ops.pure rfl (Pure.move rfl) ?_
  refine Ops.pure rfl (Pure.move rfl) ?_
  refine Ops.q rfl (QOp.call fn111 rfl (fun w hw => f_i_panelCount w a b a0 a1 b0 b1)) ?_
  refine Ops.pure rfl (Pure.move rfl) ?_
  refine Ops.pure rfl (Pure.extract rfl rfl) ?_
  refine Ops.pure rfl (Pure.extract rfl rfl) ?_
  refine Ops.pure rfl (Pure.assign rfl) ?_
  refine Ops.pure rfl (Pure.assign rfl) ?_
  refine Ops.nil ?_
  refine Run.seq ?_
  refine Run.seq ?_
  refine Run.region ?_
  refine Ops.pure rfl (Pure.move rfl) ?_
  refine Ops.pure rfl (Pure.neq rfl rfl) ?_
  refine Ops.nil ?_
  refine Run.cond rfl (fun c17 => ?_) (fun c17 => ?_)
  · skip
    replace c17 := nT c17
    refine Run.seq ?_
    refine Run.region ?_
    refine Ops.pure rfl (Pure.move rfl) ?_
    refine Ops.pure rfl (Pure.assign rfl) ?_
    refine Ops.pure rfl (Pure.assign rfl) ?_
    refine Ops.nil ?_
    refine Run.ret2 rfl rfl rfl ?_
    rw [cnN_bad c17]
    rfl
  · skip
    replace c17 := nF c17
    obtain ⟨hs, hm, hpn⟩ := pc_zero c17
    rw [hpn]
    refine Run.skip ?_
    refine Run.seq ?_
    refine Run.region ?_
    refine Ops.go rfl (Loud.makeMap .string) ?_
    rintro v19 _ ⟨b19, rfl, rfl⟩
    refine Ops.pure rfl (Pure.assign rfl) ?_
    refine Ops.nil ?_
    refine Run.seq ?_
    refine Run.seq ?_
    refine Run.region ?_
    refine Ops.pure rfl (Pure.move rfl) ?_
    refine Ops.pure rfl (Pure.move rfl) ?_
    refine Ops.nil ?_
    refine Run.block ?_
    refine Run.loop (X := Nat) (fun k => [(0, .int .i64 a), (1, .int .i64 b), (8, .map (some b19)), (20, .int .i64 ((many a b : Nat) : Int)), (21, .int .i64 k)]) (fun k => [.mp b19 .string ((keyA a b k).map Value.string)]) (fun k => k ≤ many a b) (fun k => many a b - k) 0 ?_ ?_ ?_ ?_
    · exact Nat.zero_le _
    · exact ⟨rfl, rfl, rfl, rfl, rfl, trivial⟩
    · exact Ext.refl _
    · intro k hinv0
      refine Run.seq ?_
      refine Run.region ?_
      refine Ops.pure rfl (Pure.lss rfl rfl) ?_
      refine Ops.nil ?_
      refine Run.seq ?_
      refine Run.cond rfl (fun c22 => ?_) (fun c22 => ?_)
      · skip
        replace c22 := dT c22
        refine Run.skip ?_
        refine Run.seq ?_
        refine Run.block ?_
        refine Run.seq ?_
        refine Run.region ?_
        refine Ops.pure rfl (Pure.move rfl) ?_
        refine Ops.pure rfl (Pure.assign rfl) ?_
        refine Ops.nil ?_
        have hcl := (caP_ok hs k).2
        have hco := (caP_ok hs k).1
        refine Run.region ?_
        refine Ops.pure rfl (Pure.move rfl) ?_
        refine Ops.pure rfl (Pure.move rfl) ?_
        refine Ops.pure rfl (Pure.move rfl) ?_
        refine Ops.pure rfl (Pure.move rfl) ?_
        refine Ops.go rfl (Loud.callR fn114 rfl (fun w hw => f_i_panelWith w a b k hs (by omega))) ?_
        rintro v28 _ ⟨L28, hQ28, rfl⟩
        obtain ⟨x28, h28, rfl, rfl⟩ := hQ28
        refine Ops.go rfl (Loud.callR fn113 rfl (fun w hw => f_i_canonical w a b x28 (pdig k (inn a b)) (by rw [length_pdig]; exact RdL.own 0 rfl w hw) (okP_pdig hs k))) ?_
        rintro v29 _ ⟨L29, hQ29, rfl⟩
        obtain ⟨x29, h29, rfl, rfl⟩ := hQ29
        refine Ops.q rfl (QOp.call fn112 rfl (fun w hw => f_i_panelText w (caP a b k).1 (caP a b k).2.1 x29 (caP a b k).2.2 (by rw [hcl]; exact RdL.own 0 rfl w hw) hco)) ?_
        refine Ops.store (Stores.mapU (enc := Value.string) (u := ptT (caP a b k)) 2 Try.underlying123 und9 (fun _ => trivial) (fun a c h => by injection h) rfl rfl rfl rfl) ?_
        refine Ops.nil ?_
        refine Run.blk ?_
        refine Run.region ?_
        refine Ops.pure rfl (Pure.add rfl rfl (by omega) (by omega)) ?_
        refine Ops.pure rfl (Pure.move rfl) ?_
        refine Ops.nil ?_
        refine Run.asrt ?_
        exact ⟨k + 1, ⟨by omega, by omega⟩, ⟨rfl, rfl, rfl, rfl, rfl, trivial⟩, Ext.take 2 rfl (Ext.nil _)⟩
      · skip
        replace c22 := dF c22
        refine Run.exit rfl ?_
        refine Run.seq ?_
        refine Run.region ?_
        refine Ops.pure rfl (Pure.move rfl) ?_
        refine Ops.pure rfl (Pure.lenM 0 Try.underlying123 rfl rfl) ?_
        refine Ops.pure rfl (Pure.assign rfl) ?_
        refine Ops.pure rfl (Pure.assign rfl) ?_
        refine Ops.nil ?_
        refine Run.ret2 rfl rfl rfl ?_
        have e : k = many a b := by omega
        subst e
        rw [cnN_ok c17, c17, List.length_map]

end Go.Proofs.Ytmfinopdokkjcaa
