/- Products of numbers of 64 bits by halves, in whole numbers. No program. -/
import Derived.WalkKit
import Derived.Laws.BitsLemmas
import Derived.Laws.Bits64
import Derived.Laws.Bits64b
namespace Go.Proofs.YtmeopdjdjmjngaaGreatDoor.Wide
open Go.RowKit

theorem wraps_u64 (n : Int) (h₀ : 0 ≤ n) (h₁ : n < 2 ^ 64) : IntKind.u64.wrap n = n := by rw [IntKind.wrap_u64]; omega
theorem and32 {x : Int} (h0 : 0 ≤ x) (h1 : x < 18446744073709551616) : bits .and .u64 x 4294967295 = x % 4294967296 := by
  have := bits_mask .u64 64 (by decide) wraps_u64 32 (by decide) x h0 (by simpa using h1)
  simpa using this
theorem or32 {x y : Int} (h0 : 0 ≤ x) (hx : x % 4294967296 = 0) (h1 : x < 18446744073709551616) (h2 : 0 ≤ y) (h3 : y < 4294967296) : bits .or .u64 x y = x + y := by
  have := bits_join .u64 64 (by decide) wraps_u64 32 x y h0 (by simpa using hx) (by simpa using h1) h2 (by simpa using h3)
  exact (by simpa using this : y < 18446744073709551616 → bits .or .u64 x y = x + y) (by omega)
theorem xor_max_nat (h : Nat) (hh : h < 18446744073709551616) : 18446744073709551615 ^^^ h = 18446744073709551615 - h := by
  have e := congrArg BitVec.toNat (BitVec.allOnes_xor (x := BitVec.ofNat 64 h))
  rw [BitVec.toNat_xor, BitVec.toNat_not, BitVec.toNat_allOnes, BitVec.toNat_ofNat] at e
  rw [Nat.mod_eq_of_lt (by omega)] at e
  simpa using e
theorem xor_max {h : Int} (h0 : 0 ≤ h) (h1 : h < 18446744073709551616) : bits .xor .u64 18446744073709551615 h = 18446744073709551615 - h := by
  obtain ⟨n, rfl⟩ := Int.eq_ofNat_of_zero_le h0
  have := bits_xor_u64_nat 18446744073709551615 n (by decide) (by omega)
  rw [xor_max_nat n (by omega)] at this
  rw [show (18446744073709551615 : Int) = ((18446744073709551615 : Nat) : Int) from rfl]
  rw [this]
  omega

def U (x : Int) : Int := IntKind.u64.wrap x
theorem U_mod (x : Int) : U x = x % 18446744073709551616 := IntKind.wrap_u64 x
def pp (x y : Int) : Int := U ((x % 4294967296) * (y % 4294967296))
def qq (x y : Int) : Int := U (U ((x / 4294967296) * (y % 4294967296)) + pp x y / 4294967296)
def rr (x y : Int) : Int := U (U ((x % 4294967296) * (y / 4294967296)) + qq x y % 4294967296)
def hi (x y : Int) : Int := U (U (U ((x / 4294967296) * (y / 4294967296)) + qq x y / 4294967296) + rr x y / 4294967296)
def lo (x y : Int) : Int := U (rr x y * 4294967296) + pp x y % 4294967296

theorem mul_bd {a b m n : Int} (ha : 0 ≤ a) (hb : 0 ≤ b) (h1 : a ≤ m) (h2 : b ≤ n) : 0 ≤ a * b ∧ a * b ≤ m * n :=
  ⟨Int.mul_nonneg ha hb, Int.mul_le_mul h1 h2 hb (Int.le_trans ha h1)⟩

theorem hilo (x y : Int) (hx0 : 0 ≤ x) (hx : x < 18446744073709551616) (hy0 : 0 ≤ y) (hy : y < 18446744073709551616) :
    hi x y * 18446744073709551616 + lo x y = x * y ∧ 0 ≤ hi x y ∧ hi x y < 18446744073709551616 ∧ 0 ≤ lo x y ∧ lo x y < 18446744073709551616 := by
  obtain ⟨x1, hx1⟩ : ∃ z, z = x / 4294967296 := ⟨_, rfl⟩
  obtain ⟨x0, hx0'⟩ : ∃ z, z = x % 4294967296 := ⟨_, rfl⟩
  obtain ⟨y1, hy1⟩ : ∃ z, z = y / 4294967296 := ⟨_, rfl⟩
  obtain ⟨y0, hy0'⟩ : ∃ z, z = y % 4294967296 := ⟨_, rfl⟩
  have ex : x = x1 * 4294967296 + x0 := by omega
  have ey : y = y1 * 4294967296 + y0 := by omega
  have A := mul_bd (a := x0) (b := y0) (m := 4294967295) (n := 4294967295) (by omega) (by omega) (by omega) (by omega)
  have B := mul_bd (a := x1) (b := y0) (m := 4294967295) (n := 4294967295) (by omega) (by omega) (by omega) (by omega)
  have C := mul_bd (a := x0) (b := y1) (m := 4294967295) (n := 4294967295) (by omega) (by omega) (by omega) (by omega)
  have D := mul_bd (a := x1) (b := y1) (m := 4294967295) (n := 4294967295) (by omega) (by omega) (by omega) (by omega)
  have E : x * y = (x1 * y1) * 18446744073709551616 + ((x1 * y0) + (x0 * y1)) * 4294967296 + x0 * y0 := by
    rw [ex, ey, Int.add_mul, Int.mul_add, Int.mul_add]
    have e1 : x1 * 4294967296 * (y1 * 4294967296) = (x1 * y1) * 18446744073709551616 := by
      rw [Int.mul_assoc, Int.mul_left_comm 4294967296, ← Int.mul_assoc]; rfl
    have e2 : x1 * 4294967296 * y0 = (x1 * y0) * 4294967296 := by rw [Int.mul_right_comm]
    have e3 : x0 * (y1 * 4294967296) = (x0 * y1) * 4294967296 := by rw [Int.mul_assoc]
    rw [e1, e2, e3]
    omega
  have p : pp x y = x0 * y0 := by unfold pp; rw [U_mod, ← hx0', ← hy0']; omega
  obtain ⟨P, hP⟩ : ∃ z, z = x0 * y0 := ⟨_, rfl⟩
  obtain ⟨Q, hQ⟩ : ∃ z, z = x1 * y0 := ⟨_, rfl⟩
  obtain ⟨R, hR⟩ : ∃ z, z = x0 * y1 := ⟨_, rfl⟩
  obtain ⟨S, hS⟩ : ∃ z, z = x1 * y1 := ⟨_, rfl⟩
  rw [← hP] at A p; rw [← hQ] at B; rw [← hR] at C; rw [← hS] at D
  rw [← hP, ← hQ, ← hR, ← hS] at E
  have q : qq x y = Q + P / 4294967296 := by unfold qq; rw [U_mod, U_mod, p, ← hx1, ← hy0', ← hQ]; omega
  have r : rr x y = R + (Q + P / 4294967296) % 4294967296 := by unfold rr; rw [U_mod, U_mod, q, ← hx0', ← hy1, ← hR]; omega
  have h : hi x y = S + (Q + P / 4294967296) / 4294967296 + (R + (Q + P / 4294967296) % 4294967296) / 4294967296 := by
    unfold hi; rw [U_mod, U_mod, U_mod, q, r, ← hx1, ← hy1, ← hS]; omega
  have l : lo x y = ((R + (Q + P / 4294967296) % 4294967296) * 4294967296) % 18446744073709551616 + P % 4294967296 := by
    unfold lo; rw [U_mod, r, p]
  rw [h, l, E]
  clear h l E r q p hP hQ hR hS ex ey
  omega

/-- a product of two numbers of 64 bits with a sign -/
theorem prod_bd {a b : Int} (ha : -9223372036854775808 ≤ a ∧ a ≤ 9223372036854775807) (hb : -9223372036854775808 ≤ b ∧ b ≤ 9223372036854775807) :
    -85070591730234615865843651857942052864 ≤ a * b ∧ a * b ≤ 85070591730234615865843651857942052864 := by
  have key : (a * b).natAbs ≤ 85070591730234615865843651857942052864 := by
    rw [Int.natAbs_mul]
    have := Nat.mul_le_mul (show a.natAbs ≤ 9223372036854775808 by omega) (show b.natAbs ≤ 9223372036854775808 by omega)
    omega
  omega

end Go.Proofs.YtmeopdjdjmjngaaGreatDoor.Wide
