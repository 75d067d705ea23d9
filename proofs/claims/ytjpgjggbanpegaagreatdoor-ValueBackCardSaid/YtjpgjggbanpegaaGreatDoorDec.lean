/- Digits as numbers: what is written in digits and what the library's parse makes of it. No program. -/
import Derived.Lib.ItoaNum
import Derived.Lib.AtoiAll
import Derived.Lib.ParseIntBTie
namespace Go.Proofs.YtjpgjggbanpegaaGreatDoor.Str

def isDg (c : UInt8) : Bool := decide (48 ≤ c.toNat) && decide (c.toNat ≤ 57)
def allD (l : List UInt8) : Bool := l.all isDg
def val : Nat → List UInt8 → Nat
  | a, [] => a
  | a, c :: r => val (a * 10 + (c.toNat - 48)) r
theorem isDg_iff (c : UInt8) : isDg c = true ↔ 48 ≤ c.toNat ∧ c.toNat ≤ 57 := by unfold isDg; simp
theorem allD_cons (c : UInt8) (r : List UInt8) : allD (c :: r) = (isDg c && allD r) := rfl
theorem allD_append (a b : List UInt8) : allD (a ++ b) = (allD a && allD b) := by unfold allD; rw [List.all_append]
theorem val_ge : ∀ (l : List UInt8) (a : Nat), a ≤ val a l
  | [], a => Nat.le_refl _
  | c :: r, a => by
    have := val_ge r (a * 10 + (c.toNat - 48))
    unfold val
    omega
theorem val_append : ∀ (l m : List UInt8) (a : Nat), val a (l ++ m) = val (val a l) m
  | [], m, a => rfl
  | c :: r, m, a => val_append r m _
theorem val_mono : ∀ (l : List UInt8) (a b : Nat), a ≤ b → val a l ≤ val b l
  | [], a, b, h => h
  | c :: r, a, b, h => val_mono r _ _ (by omega)
theorem parse_digits : ∀ (l : List UInt8) (a : Nat), allD l = true → a < 18446744073709551616 → Lib.parseUint10 a l = if val a l < 18446744073709551616 then .ok (val a l) else .range
  | [], a, _, h => by
    show Lib.NumEnd.ok a = if a < 18446744073709551616 then .ok a else .range
    rw [if_pos h]
  | c :: r, a, hd, h => by
    rw [allD_cons, Bool.and_eq_true] at hd
    obtain ⟨h1, h2⟩ := hd
    have hc := (isDg_iff c).1 h1
    have hg := val_ge r (a * 10 + (c.toNat - 48))
    unfold Lib.parseUint10 val
    rw [if_pos hc]
    by_cases g1 : 1844674407370955162 ≤ a
    · rw [if_pos g1, if_neg (by omega)]
    · rw [if_neg g1]
      by_cases g2 : 18446744073709551616 ≤ a * 10 + (c.toNat - 48)
      · rw [if_pos g2, if_neg (by omega)]
      · rw [if_neg g2]
        exact parse_digits r _ h2 (by omega)
theorem mag_digits (l : List UInt8) (h : allD l = true) (hne : l ≠ []) : Lib.parseMag l = if val 0 l < 18446744073709551616 then .ok (val 0 l) else .range := by
  unfold Lib.parseMag
  rw [if_neg hne]
  exact parse_digits l 0 h (by omega)
theorem atoi_digits (l : List UInt8) (h : allD l = true) (hne : l ≠ []) : Lib.atoiAll l = if val 0 l < 9223372036854775808 then .ok ((val 0 l : Nat) : Int) else .range := by
  cases l with
  | nil => exact absurd rfl hne
  | cons c r =>
    have hc := h
    rw [allD_cons, Bool.and_eq_true] at hc
    have h1 := (isDg_iff c).1 hc.1
    have hm := mag_digits (c :: r) h hne
    unfold Lib.atoiAll
    simp only
    rw [if_neg (by omega), hm]
    by_cases g : val 0 (c :: r) < 18446744073709551616
    · rw [if_pos g]
      simp only
      by_cases g2 : val 0 (c :: r) < 9223372036854775808
      · rw [if_pos g2, if_neg (by omega), if_neg (by omega), if_neg (by omega)]
      · rw [if_neg g2, if_pos (by omega)]
    · rw [if_neg g, if_neg (by omega)]
theorem atoi_minus (l : List UInt8) (h : allD l = true) (hne : l ≠ []) : Lib.atoiAll (45 :: l) = if val 0 l ≤ 9223372036854775808 then .ok (-((val 0 l : Nat) : Int)) else .range := by
  have hm := mag_digits l h hne
  unfold Lib.atoiAll
  simp only
  rw [if_pos (by decide), hm]
  by_cases g : val 0 l < 18446744073709551616
  · rw [if_pos g]
    simp only
    rw [if_neg (by simp)]
    by_cases g2 : val 0 l ≤ 9223372036854775808
    · rw [if_pos g2, if_neg (by simp; omega), if_pos (by decide)]
    · rw [if_neg g2, if_pos ⟨by decide, by omega⟩]
  · rw [if_neg g, if_neg (by omega)]
theorem dgc (n : Nat) (h : n < 10) : (UInt8.ofNat (48 + n)).toNat = 48 + n := by
  rw [UInt8.toNat_ofNat']; omega
theorem dec_digits (n : Nat) : allD (Lib.decDigits n) = true ∧ val 0 (Lib.decDigits n) = n ∧ Lib.decDigits n ≠ [] := by
  induction n using Nat.strongRecOn with
  | _ n ih =>
    by_cases h : n < 10
    · rw [Lib.decDigits, dif_pos h]
      have := dgc n h
      refine ⟨?_, ?_, by simp⟩
      · rw [allD_cons, Bool.and_eq_true, isDg_iff, this]
        exact ⟨⟨by omega, by omega⟩, rfl⟩
      · unfold val val; omega
    · rw [Lib.decDigits, dif_neg h]
      obtain ⟨h1, h2, h3⟩ := ih (n / 10) (by omega)
      have := dgc (n % 10) (by omega)
      refine ⟨?_, ?_, by simp⟩
      · rw [allD_append, Bool.and_eq_true, allD_cons, Bool.and_eq_true, isDg_iff, this]
        exact ⟨h1, ⟨by omega, by omega⟩, rfl⟩
      · rw [val_append, h2]
        unfold val val
        omega
theorem val_replicate (m : Nat) (l : List UInt8) : val 0 (List.replicate m 48 ++ l) = val 0 l := by
  induction m with
  | zero => rfl
  | succ m ih =>
    rw [List.replicate_succ, List.cons_append]
    have e : val 0 (48 :: (List.replicate m 48 ++ l)) = val (0 * 10 + ((48 : UInt8).toNat - 48)) (List.replicate m 48 ++ l) := rfl
    rw [e]
    exact ih
theorem allD_replicate (m : Nat) : allD (List.replicate m 48) = true := by
  induction m with
  | zero => rfl
  | succ m ih => rw [List.replicate_succ, allD_cons, ih]; rfl
/-- the bytes of a written number: digits and '-' -/
theorem itoa_mem (n : Int) : ∀ c ∈ Lib.itoa n, c = 45 ∨ isDg c = true := by
  intro c hc
  have hd : ∀ m : Nat, ∀ c ∈ Lib.decDigits m, isDg c = true := fun m c hc => List.all_eq_true.1 (dec_digits m).1 c hc
  unfold Lib.itoa at hc
  split at hc
  · rcases List.mem_cons.1 hc with rfl | hc
    · exact .inl rfl
    · exact .inr (hd _ _ hc)
  · exact .inr (hd _ _ hc)
theorem dec_inj {a b : Nat} (h : Lib.decDigits a = Lib.decDigits b) : a = b := by
  rw [← (dec_digits a).2.1, h, (dec_digits b).2.1]
theorem dec_head (n : Nat) : ∀ r, Lib.decDigits n ≠ 45 :: r := by
  intro r h
  have := (dec_digits n).1
  rw [h, allD_cons] at this
  exact absurd this (by simp [isDg])
theorem itoa_inj {a b : Int} (h : Lib.itoa a = Lib.itoa b) : a = b := by
  unfold Lib.itoa at h
  split at h <;> split at h
  · have := dec_inj (List.cons.inj h).2; omega
  · exact absurd h.symm (dec_head _ _)
  · exact absurd h (dec_head _ _)
  · have := dec_inj h; omega
/-- a text up to a mark that is not in it -/
theorem split_mark {p q x y : List UInt8} {m : UInt8} (hp : ∀ c ∈ p, c ≠ m) (hq : ∀ c ∈ q, c ≠ m) (h : p ++ m :: x = q ++ m :: y) : p = q ∧ x = y := by
  induction p generalizing q with
  | nil =>
    cases q with
    | nil => exact ⟨rfl, (List.cons.inj h).2⟩
    | cons d q => exact absurd (List.cons.inj h).1.symm (hq d (by simp))
  | cons c p ih =>
    cases q with
    | nil => exact absurd (List.cons.inj h).1 (hp c (by simp))
    | cons d q =>
      obtain ⟨rfl, h2⟩ := List.cons.inj h
      obtain ⟨rfl, h3⟩ := ih (fun c hc => hp c (List.mem_cons_of_mem _ hc)) (fun c hc => hq c (List.mem_cons_of_mem _ hc)) h2
      exact ⟨rfl, h3⟩
end Go.Proofs.YtjpgjggbanpegaaGreatDoor.Str
