/- Strings of bytes as lists: the decimal digits with noughts ahead. No program. -/
import Derived.Test.YtmeopdjdjmjngaaGreatDoorStrB
import Derived.Lib.ItoaNum
import Derived.Lib.Repeat
namespace Go.Proofs.YtmeopdjdjmjngaaGreatDoor.Str
open Go.RowKit

/-- the digits of a number, with noughts ahead up to a length; none of nought itself -/
def P (n m : Nat) : List UInt8 := if n = 0 then List.replicate m 48 else List.replicate (m - Lib.nDigits n) 48 ++ Lib.decDigits n
theorem P_step (n m : Nat) (h : 0 < n ∨ 0 < m) : P n m = P (n / 10) (m - 1) ++ [UInt8.ofNat (48 + n % 10)] := by
  unfold P
  by_cases h0 : n = 0
  · subst h0
    rw [if_pos rfl, Nat.zero_div, if_pos rfl]
    obtain ⟨q, rfl⟩ : ∃ q, m = q + 1 := ⟨m - 1, by omega⟩
    rw [List.replicate_succ']
    rfl
  · rw [if_neg h0]
    by_cases h1 : n < 10
    · rw [show n / 10 = 0 by omega, if_pos rfl, Lib.nDigits_small h1, Lib.decDigits, dif_pos h1, Nat.mod_eq_of_lt h1]
    · rw [if_neg (by omega), Lib.nDigits_big h1, Lib.decDigits, dif_neg h1, ← List.append_assoc]
      congr 3
      omega
theorem decDigits_length (n : Nat) : (Lib.decDigits n).length = Lib.nDigits n := by rw [Lib.decDigits_eq]; simp
theorem P_one (n : Nat) : P n 1 = Lib.decDigits n := by
  unfold P
  by_cases h0 : n = 0
  · subst h0; rw [if_pos rfl, Lib.decDigits, dif_pos (by omega)]; rfl
  · rw [if_neg h0]
    have := Lib.nDigits_pos n
    rw [show 1 - Lib.nDigits n = 0 by omega]; rfl
theorem P_pad (n m : Nat) (h : 1 ≤ m) : P n m = List.replicate (m - (Lib.decDigits n).length) 48 ++ Lib.decDigits n := by
  unfold P
  by_cases h0 : n = 0
  · subst h0
    rw [if_pos rfl, Lib.decDigits, dif_pos (by omega)]
    obtain ⟨q, rfl⟩ : ∃ q, m = q + 1 := ⟨m - 1, by omega⟩
    rw [List.replicate_succ']
    rfl
  · rw [if_neg h0, decDigits_length]
theorem nDigits_le (n k : Nat) (h : n < 10 ^ (k + 1)) : Lib.nDigits n ≤ k + 1 := by
  induction k generalizing n with
  | zero => rw [Lib.nDigits_small (by simpa using h)]; omega
  | succ k ih =>
    by_cases h1 : n < 10
    · rw [Lib.nDigits_small h1]; omega
    · rw [Lib.nDigits_big h1]
      have := ih (n / 10) (by rw [Nat.pow_succ] at h; omega)
      omega
theorem P_length (n m : Nat) (h : 1 ≤ m) : (P n m).length = max m (Lib.nDigits n) := by
  rw [P_pad n m h, List.length_append, List.length_replicate, decDigits_length]; omega
theorem repeat48 (c : Nat) : Lib.repeatL [48] c = List.replicate c 48 := by
  induction c with
  | zero => rfl
  | succ c ih => rw [Lib.repeatL, ih, List.replicate_succ]; rfl
theorem digits_head (n : Nat) : ∃ d r, Lib.decDigits n = d :: r ∧ d ≠ 45 := by
  induction n using Nat.strongRecOn with
  | _ n ih =>
    by_cases h : n < 10
    · rw [Lib.decDigits, dif_pos h]
      refine ⟨_, [], rfl, ?_⟩
      intro e
      have := congrArg UInt8.toNat e
      rw [UInt8.toNat_ofNat'] at this
      simp at this
      omega
    · obtain ⟨d, r, e, hd⟩ := ih (n / 10) (by omega)
      rw [Lib.decDigits, dif_neg h, e]
      exact ⟨d, _, rfl, hd⟩

end Go.Proofs.YtmeopdjdjmjngaaGreatDoor.Str
