/- Strings of bytes as lists: sums, cuts, the decimal digits with noughts ahead. No program. -/
import Derived.WalkKit
import Derived.Lib.ItoaNum
import Derived.Lib.Repeat
import Derived.Laws.BytesArg
namespace Go.Proofs.YtmjpdhledcfjaaaDoor.Str
open Go.RowKit

theorem loop_eq (s : ByteArray) : ∀ (d i : Nat) (r : List UInt8), i + d = s.size → ByteArray.toList.loop s i r = r.reverse ++ s.data.toList.drop i := by
  intro d
  induction d with
  | zero =>
    intro i r h
    unfold ByteArray.toList.loop
    rw [if_neg (by omega), List.drop_of_length_le (by rw [Array.length_toList]; show s.size ≤ i; omega), List.append_nil]
  | succ d ih =>
    intro i r h
    unfold ByteArray.toList.loop
    have hi : i < s.data.size := by show i < s.size; omega
    have hl : i < s.data.toList.length := by simpa using hi
    rw [if_pos (by omega), ih (i + 1) _ (by omega), List.reverse_cons, List.append_assoc]
    congr 1
    rw [List.drop_eq_getElem_cons hl]
    simp only [List.singleton_append, List.cons.injEq, and_true]
    show s.data[i]! = _
    rw [getElem!_pos s.data i hi]
    simp
theorem toList_eq (s : ByteArray) : s.toList = s.data.toList := by
  unfold ByteArray.toList
  rw [loop_eq s s.size 0 [] (by omega)]
  simp

/-- a string of these bytes -/
def B (l : List UInt8) : ByteArray := ⟨l.toArray⟩
theorem B_data (l : List UInt8) : (B l).data.toList = l := by simp [B]
theorem B_toList (l : List UInt8) : (B l).toList = l := by rw [toList_eq, B_data]
theorem B_size (l : List UInt8) : (B l).size = l.length := by simp [B, ByteArray.size]
theorem B_of (s : ByteArray) : s = B s.data.toList := by simp [B]
theorem B_inj {a b : List UInt8} (h : B a = B b) : a = b := by rw [← B_data a, h, B_data]
theorem B_append (a b : List UInt8) : B a ++ B b = B (a ++ b) := by
  apply ByteArray.ext
  rw [ByteArray.data_append]
  simp [B]
theorem B_extract (l : List UInt8) (i j : Nat) : (B l).extract i j = B ((l.take j).drop i) := by
  apply ByteArray.ext
  rw [ByteArray.data_extract]
  simp [B, List.drop_take]
theorem B_nums (xs : List Int) : strOfNums xs = B (xs.map fun n => UInt8.ofNat n.toNat) := rfl

/-- the digits of a number, with noughts ahead up to a length; none of nought itself -/
def P (n m : Nat) : List UInt8 := if n = 0 then List.replicate m 48 else List.replicate (m - Lib.nDigits n) 48 ++ Lib.decDigits n
theorem P_step (n m : Nat) (h : 0 < n ∨ 0 < m) : P n m = P (n / 10) (m - 1) ++ [UInt8.ofNat (48 + n % 10)] := by
  unfold P
  by_cases h0 : n = 0
  · subst h0
    rw [if_pos rfl, Nat.zero_div, if_pos rfl]
    obtain ⟨q, rfl⟩ : ∃ q, m = q + 1 := ⟨m - 1, by omega⟩
    rw [List.replicate_succ']
    rfl
  · rw [if_neg h0]
    by_cases h1 : n < 10
    · rw [show n / 10 = 0 by omega, if_pos rfl, Lib.nDigits_small h1, Lib.decDigits, dif_pos h1, Nat.mod_eq_of_lt h1]
    · rw [if_neg (by omega), Lib.nDigits_big h1, Lib.decDigits, dif_neg h1, ← List.append_assoc]
      congr 3
      omega
theorem decDigits_length (n : Nat) : (Lib.decDigits n).length = Lib.nDigits n := by rw [Lib.decDigits_eq]; simp
theorem P_one (n : Nat) : P n 1 = Lib.decDigits n := by
  unfold P
  by_cases h0 : n = 0
  · subst h0; rw [if_pos rfl, Lib.decDigits, dif_pos (by omega)]; rfl
  · rw [if_neg h0]
    have := Lib.nDigits_pos n
    rw [show 1 - Lib.nDigits n = 0 by omega]; rfl
theorem P_pad (n m : Nat) (h : 1 ≤ m) : P n m = List.replicate (m - (Lib.decDigits n).length) 48 ++ Lib.decDigits n := by
  unfold P
  by_cases h0 : n = 0
  · subst h0
    rw [if_pos rfl, Lib.decDigits, dif_pos (by omega)]
    obtain ⟨q, rfl⟩ : ∃ q, m = q + 1 := ⟨m - 1, by omega⟩
    rw [List.replicate_succ']
    rfl
  · rw [if_neg h0, decDigits_length]
theorem nDigits_le (n k : Nat) (h : n < 10 ^ (k + 1)) : Lib.nDigits n ≤ k + 1 := by
  induction k generalizing n with
  | zero => rw [Lib.nDigits_small (by simpa using h)]; omega
  | succ k ih =>
    by_cases h1 : n < 10
    · rw [Lib.nDigits_small h1]; omega
    · rw [Lib.nDigits_big h1]
      have := ih (n / 10) (by rw [Nat.pow_succ] at h; omega)
      omega
theorem P_length (n m : Nat) (h : 1 ≤ m) : (P n m).length = max m (Lib.nDigits n) := by
  rw [P_pad n m h, List.length_append, List.length_replicate, decDigits_length]; omega
theorem repeat48 (c : Nat) : Lib.repeatL [48] c = List.replicate c 48 := by
  induction c with
  | zero => rfl
  | succ c ih => rw [Lib.repeatL, ih, List.replicate_succ]; rfl
theorem digits_head (n : Nat) : ∃ d r, Lib.decDigits n = d :: r ∧ d ≠ 45 := by
  induction n using Nat.strongRecOn with
  | _ n ih =>
    by_cases h : n < 10
    · rw [Lib.decDigits, dif_pos h]
      refine ⟨_, [], rfl, ?_⟩
      intro e
      have := congrArg UInt8.toNat e
      rw [UInt8.toNat_ofNat'] at this
      simp at this
      omega
    · obtain ⟨d, r, e, hd⟩ := ih (n / 10) (by omega)
      rw [Lib.decDigits, dif_neg h, e]
      exact ⟨d, _, rfl, hd⟩

end Go.Proofs.YtmjpdhledcfjaaaDoor.Str
