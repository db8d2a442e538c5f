/- Contracts of functions, printed by program from annotations. -/
import Derived.Test.YtmfinopdokkjcaaPNum
import Derived.Test.YtmfinopdokkjcaaPWith
namespace Go.Proofs.Ytmfinopdokkjcaa
open Go Go.AW Go.RowKit
set_option linter.unusedVariables false
set_option linter.unusedSimpArgs false

theorem p3_pos (n : Nat) : 1 ≤ p3 n := Nat.pow_pos (by decide)

theorem p3_add (i j : Nat) : p3 (i + j) = p3 i * p3 j := Nat.pow_add ..
theorem numTo_congr {l m : List Int} : ∀ k, (∀ j, j < k → l.getD j 0 = m.getD j 0) → numTo l k = numTo m k
  | 0, _ => rfl
  | k + 1, h => by
    show 3 * numTo l k + l.getD k 0 = 3 * numTo m k + m.getD k 0
    rw [numTo_congr k (fun j hj => h j (by omega)), h k (by omega)]
theorem numTo_cons (d : Int) (r : List Int) : ∀ k, numTo (d :: r) (k + 1) = d * (p3 k : Int) + numTo r k
  | 0 => by
    show 3 * 0 + d = d * ((p3 0 : Nat) : Int) + 0
    rw [show p3 0 = 1 from rfl]
    omega
  | k + 1 => by
    show 3 * numTo (d :: r) (k + 1) + r.getD k 0 = d * (p3 (k + 1) : Int) + (3 * numTo r k + r.getD k 0)
    rw [numTo_cons d r k, p3_succ, Int.natCast_mul, Int.mul_add, show d * (((3 : Nat) : Int) * (p3 k : Int)) = 3 * (d * (p3 k : Int)) by rw [Int.mul_left_comm]; rfl]
    omega
theorem numTo_pdig (m : Nat) : ∀ n, numTo (pdig m n) n = ((m % p3 n : Nat) : Int)
  | 0 => by
    show (0 : Int) = ((m % 1 : Nat) : Int)
    omega
  | n + 1 => by
    show numTo (((m / p3 n % 3 : Nat) : Int) :: pdig m n) (n + 1) = _
    rw [numTo_cons, numTo_pdig m n, p3_succ, Nat.mul_comm 3, Nat.mod_mul, Int.natCast_add, Int.natCast_mul, Int.mul_comm, Int.add_comm]
theorem pdig_low (c q n : Nat) : ∀ j, j ≤ n → pdig (c * p3 n + q) j = pdig q j
  | 0, _ => rfl
  | j + 1, h => by
    show (((c * p3 n + q) / p3 j % 3 : Nat) : Int) :: pdig (c * p3 n + q) j = ((q / p3 j % 3 : Nat) : Int) :: pdig q j
    rw [pdig_low c q n j (by omega)]
    congr 2
    obtain ⟨t, rfl⟩ : ∃ t, n = j + (t + 1) := ⟨n - j - 1, by omega⟩
    rw [p3_add, p3_succ, show c * (p3 j * (3 * p3 t)) + q = q + p3 j * (3 * (c * p3 t)) by rw [Nat.mul_left_comm c, Nat.mul_left_comm c, Nat.add_comm], Nat.add_mul_div_left _ _ (p3_pos j), Nat.add_mul_mod_self_left]
theorem pdig_num : ∀ (l : List Int), (∀ x ∈ l, 0 ≤ x ∧ x ≤ 2) → 0 ≤ numTo l l.length ∧ numTo l l.length < p3 l.length ∧ pdig (numTo l l.length).toNat l.length = l
  | [], _ => ⟨Int.le_refl _, by decide, rfl⟩
  | d :: r, h => by
    obtain ⟨h1, h2, h3⟩ := pdig_num r (fun x hx => h x (List.mem_cons_of_mem _ hx))
    have hd := h d (List.mem_cons_self ..)
    rw [List.length_cons, numTo_cons]
    obtain ⟨e, rfl⟩ := Int.eq_ofNat_of_zero_le hd.1
    obtain ⟨q, hq⟩ := Int.eq_ofNat_of_zero_le h1
    rw [hq] at h2 h3 ⊢
    rw [Int.toNat_natCast] at h3
    have e1 : ((e : Nat) : Int) * (p3 r.length : Int) + (q : Int) = ((e * p3 r.length + q : Nat) : Int) := by rw [Int.natCast_add, Int.natCast_mul]
    rw [e1, Int.toNat_natCast]
    have hq2 : q < p3 r.length := by omega
    have he : e ≤ 2 := by omega
    refine ⟨by omega, ?_, ?_⟩
    · have h4 : e * p3 r.length ≤ 2 * p3 r.length := Nat.mul_le_mul_right _ he
      have h5 := p3_succ r.length
      omega
    · show (((e * p3 r.length + q) / p3 r.length % 3 : Nat) : Int) :: pdig (e * p3 r.length + q) r.length = _
      rw [pdig_low e q _ _ (Nat.le_refl _), h3, Nat.add_comm, Nat.add_mul_div_right _ _ (p3_pos _), Nat.div_eq_of_lt hq2, Nat.zero_add, Nat.mod_eq_of_lt (by omega)]

end Go.Proofs.Ytmfinopdokkjcaa
