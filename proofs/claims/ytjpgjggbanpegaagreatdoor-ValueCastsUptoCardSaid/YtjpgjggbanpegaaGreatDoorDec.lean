/- Digits as numbers: what is written in digits and what the library's parse makes of it. No program. -/
import Derived.Lib.ItoaNum
import Derived.Lib.AtoiAll
import Derived.Lib.ParseIntBTie
namespace Go.Proofs.YtjpgjggbanpegaaGreatDoor.Str

def isDg (c : UInt8) : Bool := decide (48 ≤ c.toNat) && decide (c.toNat ≤ 57)
def allD (l : List UInt8) : Bool := l.all isDg
def val : Nat → List UInt8 → Nat
  | a, [] => a
  | a, c :: r => val (a * 10 + (c.toNat - 48)) r
theorem isDg_iff (c : UInt8) : isDg c = true ↔ 48 ≤ c.toNat ∧ c.toNat ≤ 57 := by unfold isDg; simp
theorem allD_cons (c : UInt8) (r : List UInt8) : allD (c :: r) = (isDg c && allD r) := rfl
theorem allD_append (a b : List UInt8) : allD (a ++ b) = (allD a && allD b) := by unfold allD; rw [List.all_append]
theorem val_ge : ∀ (l : List UInt8) (a : Nat), a ≤ val a l
  | [], a => Nat.le_refl _
  | c :: r, a => by
    have := val_ge r (a * 10 + (c.toNat - 48))
    unfold val
    omega
theorem parse_digits : ∀ (l : List UInt8) (a : Nat), allD l = true → a < 18446744073709551616 → Lib.parseUint10 a l = if val a l < 18446744073709551616 then .ok (val a l) else .range
  | [], a, _, h => by
    show Lib.NumEnd.ok a = if a < 18446744073709551616 then .ok a else .range
    rw [if_pos h]
  | c :: r, a, hd, h => by
    rw [allD_cons, Bool.and_eq_true] at hd
    obtain ⟨h1, h2⟩ := hd
    have hc := (isDg_iff c).1 h1
    have hg := val_ge r (a * 10 + (c.toNat - 48))
    unfold Lib.parseUint10 val
    rw [if_pos hc]
    by_cases g1 : 1844674407370955162 ≤ a
    · rw [if_pos g1, if_neg (by omega)]
    · rw [if_neg g1]
      by_cases g2 : 18446744073709551616 ≤ a * 10 + (c.toNat - 48)
      · rw [if_pos g2, if_neg (by omega)]
      · rw [if_neg g2]
        exact parse_digits r _ h2 (by omega)
theorem mag_digits (l : List UInt8) (h : allD l = true) (hne : l ≠ []) : Lib.parseMag l = if val 0 l < 18446744073709551616 then .ok (val 0 l) else .range := by
  unfold Lib.parseMag
  rw [if_neg hne]
  exact parse_digits l 0 h (by omega)
theorem atoi_digits (l : List UInt8) (h : allD l = true) (hne : l ≠ []) : Lib.atoiAll l = if val 0 l < 9223372036854775808 then .ok ((val 0 l : Nat) : Int) else .range := by
  cases l with
  | nil => exact absurd rfl hne
  | cons c r =>
    have hc := h
    rw [allD_cons, Bool.and_eq_true] at hc
    have h1 := (isDg_iff c).1 hc.1
    have hm := mag_digits (c :: r) h hne
    unfold Lib.atoiAll
    simp only
    rw [if_neg (by omega), hm]
    by_cases g : val 0 (c :: r) < 18446744073709551616
    · rw [if_pos g]
      simp only
      by_cases g2 : val 0 (c :: r) < 9223372036854775808
      · rw [if_pos g2, if_neg (by omega), if_neg (by omega), if_neg (by omega)]
      · rw [if_neg g2, if_pos (by omega)]
    · rw [if_neg g, if_neg (by omega)]
theorem atoi_minus (l : List UInt8) (h : allD l = true) (hne : l ≠ []) : Lib.atoiAll (45 :: l) = if val 0 l ≤ 9223372036854775808 then .ok (-((val 0 l : Nat) : Int)) else .range := by
  have hm := mag_digits l h hne
  unfold Lib.atoiAll
  simp only
  rw [if_pos (by decide), hm]
  by_cases g : val 0 l < 18446744073709551616
  · rw [if_pos g]
    simp only
    rw [if_neg (by simp)]
    by_cases g2 : val 0 l ≤ 9223372036854775808
    · rw [if_pos g2, if_neg (by simp; omega), if_pos (by decide)]
    · rw [if_neg g2, if_pos ⟨by decide, by omega⟩]
  · rw [if_neg g, if_neg (by omega)]
end Go.Proofs.YtjpgjggbanpegaaGreatDoor.Str
