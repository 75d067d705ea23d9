/- Digits as numbers; a value's key: just the same values that may be have the same. No program. -/
import Derived.Lib.ItoaNum
import Derived.Lib.AtoiAll
import Derived.Lib.ParseIntBTie
namespace Go.Proofs.YtjpgjggbanpegaaDoor.Str

def isDg (c : UInt8) : Bool := decide (48 ≤ c.toNat) && decide (c.toNat ≤ 57)
def allD (l : List UInt8) : Bool := l.all isDg
def val : Nat → List UInt8 → Nat
  | a, [] => a
  | a, c :: r => val (a * 10 + (c.toNat - 48)) r
theorem isDg_iff (c : UInt8) : isDg c = true ↔ 48 ≤ c.toNat ∧ c.toNat ≤ 57 := by unfold isDg; simp
theorem allD_cons (c : UInt8) (r : List UInt8) : allD (c :: r) = (isDg c && allD r) := rfl
theorem allD_append (a b : List UInt8) : allD (a ++ b) = (allD a && allD b) := by unfold allD; rw [List.all_append]
theorem val_ge : ∀ (l : List UInt8) (a : Nat), a ≤ val a l
  | [], a => Nat.le_refl _
  | c :: r, a => by
    have := val_ge r (a * 10 + (c.toNat - 48))
    unfold val
    omega
theorem val_append : ∀ (l m : List UInt8) (a : Nat), val a (l ++ m) = val (val a l) m
  | [], m, a => rfl
  | c :: r, m, a => val_append r m _
theorem val_mono : ∀ (l : List UInt8) (a b : Nat), a ≤ b → val a l ≤ val b l
  | [], a, b, h => h
  | c :: r, a, b, h => val_mono r _ _ (by omega)
theorem parse_digits : ∀ (l : List UInt8) (a : Nat), allD l = true → a < 18446744073709551616 → Lib.parseUint10 a l = if val a l < 18446744073709551616 then .ok (val a l) else .range
  | [], a, _, h => by
    show Lib.NumEnd.ok a = if a < 18446744073709551616 then .ok a else .range
    rw [if_pos h]
  | c :: r, a, hd, h => by
    rw [allD_cons, Bool.and_eq_true] at hd
    obtain ⟨h1, h2⟩ := hd
    have hc := (isDg_iff c).1 h1
    have hg := val_ge r (a * 10 + (c.toNat - 48))
    unfold Lib.parseUint10 val
    rw [if_pos hc]
    by_cases g1 : 1844674407370955162 ≤ a
    · rw [if_pos g1, if_neg (by omega)]
    · rw [if_neg g1]
      by_cases g2 : 18446744073709551616 ≤ a * 10 + (c.toNat - 48)
      · rw [if_pos g2, if_neg (by omega)]
      · rw [if_neg g2]
        exact parse_digits r _ h2 (by omega)
theorem mag_digits (l : List UInt8) (h : allD l = true) (hne : l ≠ []) : Lib.parseMag l = if val 0 l < 18446744073709551616 then .ok (val 0 l) else .range := by
  unfold Lib.parseMag
  rw [if_neg hne]
  exact parse_digits l 0 h (by omega)
theorem atoi_digits (l : List UInt8) (h : allD l = true) (hne : l ≠ []) : Lib.atoiAll l = if val 0 l < 9223372036854775808 then .ok ((val 0 l : Nat) : Int) else .range := by
  cases l with
  | nil => exact absurd rfl hne
  | cons c r =>
    have hc := h
    rw [allD_cons, Bool.and_eq_true] at hc
    have h1 := (isDg_iff c).1 hc.1
    have hm := mag_digits (c :: r) h hne
    unfold Lib.atoiAll
    simp only
    rw [if_neg (by omega), hm]
    by_cases g : val 0 (c :: r) < 18446744073709551616
    · rw [if_pos g]
      simp only
      by_cases g2 : val 0 (c :: r) < 9223372036854775808
      · rw [if_pos g2, if_neg (by omega), if_neg (by omega), if_neg (by omega)]
      · rw [if_neg g2, if_pos (by omega)]
    · rw [if_neg g, if_neg (by omega)]
theorem atoi_minus (l : List UInt8) (h : allD l = true) (hne : l ≠ []) : Lib.atoiAll (45 :: l) = if val 0 l ≤ 9223372036854775808 then .ok (-((val 0 l : Nat) : Int)) else .range := by
  have hm := mag_digits l h hne
  unfold Lib.atoiAll
  simp only
  rw [if_pos (by decide), hm]
  by_cases g : val 0 l < 18446744073709551616
  · rw [if_pos g]
    simp only
    rw [if_neg (by simp)]
    by_cases g2 : val 0 l ≤ 9223372036854775808
    · rw [if_pos g2, if_neg (by simp; omega), if_pos (by decide)]
    · rw [if_neg g2, if_pos ⟨by decide, by omega⟩]
  · rw [if_neg g, if_neg (by omega)]
theorem dgc (n : Nat) (h : n < 10) : (UInt8.ofNat (48 + n)).toNat = 48 + n := by
  rw [UInt8.toNat_ofNat']; omega
theorem dec_digits (n : Nat) : allD (Lib.decDigits n) = true ∧ val 0 (Lib.decDigits n) = n ∧ Lib.decDigits n ≠ [] := by
  induction n using Nat.strongRecOn with
  | _ n ih =>
    by_cases h : n < 10
    · rw [Lib.decDigits, dif_pos h]
      have := dgc n h
      refine ⟨?_, ?_, by simp⟩
      · rw [allD_cons, Bool.and_eq_true, isDg_iff, this]
        exact ⟨⟨by omega, by omega⟩, rfl⟩
      · unfold val val; omega
    · rw [Lib.decDigits, dif_neg h]
      obtain ⟨h1, h2, h3⟩ := ih (n / 10) (by omega)
      have := dgc (n % 10) (by omega)
      refine ⟨?_, ?_, by simp⟩
      · rw [allD_append, Bool.and_eq_true, allD_cons, Bool.and_eq_true, isDg_iff, this]
        exact ⟨h1, ⟨by omega, by omega⟩, rfl⟩
      · rw [val_append, h2]
        unfold val val
        omega
theorem val_replicate (m : Nat) (l : List UInt8) : val 0 (List.replicate m 48 ++ l) = val 0 l := by
  induction m with
  | zero => rfl
  | succ m ih =>
    rw [List.replicate_succ, List.cons_append]
    have e : val 0 (48 :: (List.replicate m 48 ++ l)) = val (0 * 10 + ((48 : UInt8).toNat - 48)) (List.replicate m 48 ++ l) := rfl
    rw [e]
    exact ih
theorem allD_replicate (m : Nat) : allD (List.replicate m 48) = true := by
  induction m with
  | zero => rfl
  | succ m ih => rw [List.replicate_succ, allD_cons, ih]; rfl
/-- the bytes of a written number: digits and '-' -/
theorem itoa_mem (n : Int) : ∀ c ∈ Lib.itoa n, c = 45 ∨ isDg c = true := by
  intro c hc
  have hd : ∀ m : Nat, ∀ c ∈ Lib.decDigits m, isDg c = true := fun m c hc => List.all_eq_true.1 (dec_digits m).1 c hc
  unfold Lib.itoa at hc
  split at hc
  · rcases List.mem_cons.1 hc with rfl | hc
    · exact .inl rfl
    · exact .inr (hd _ _ hc)
  · exact .inr (hd _ _ hc)
theorem dec_inj {a b : Nat} (h : Lib.decDigits a = Lib.decDigits b) : a = b := by
  rw [← (dec_digits a).2.1, h, (dec_digits b).2.1]
theorem dec_head (n : Nat) : ∀ r, Lib.decDigits n ≠ 45 :: r := by
  intro r h
  have := (dec_digits n).1
  rw [h, allD_cons] at this
  exact absurd this (by simp [isDg])
theorem itoa_inj {a b : Int} (h : Lib.itoa a = Lib.itoa b) : a = b := by
  unfold Lib.itoa at h
  split at h <;> split at h
  · have := dec_inj (List.cons.inj h).2; omega
  · exact absurd h.symm (dec_head _ _)
  · exact absurd h (dec_head _ _)
  · have := dec_inj h; omega
/-- a text up to a mark that is not in it -/
theorem split_mark {p q x y : List UInt8} {m : UInt8} (hp : ∀ c ∈ p, c ≠ m) (hq : ∀ c ∈ q, c ≠ m) (h : p ++ m :: x = q ++ m :: y) : p = q ∧ x = y := by
  induction p generalizing q with
  | nil =>
    cases q with
    | nil => exact ⟨rfl, (List.cons.inj h).2⟩
    | cons d q => exact absurd (List.cons.inj h).1.symm (hq d (by simp))
  | cons c p ih =>
    cases q with
    | nil => exact absurd (List.cons.inj h).1 (hp c (by simp))
    | cons d q =>
      obtain ⟨rfl, h2⟩ := List.cons.inj h
      obtain ⟨rfl, h3⟩ := ih (fun c hc => hp c (List.mem_cons_of_mem _ hc)) (fun c hc => hq c (List.mem_cons_of_mem _ hc)) h2
      exact ⟨rfl, h3⟩
end Go.Proofs.YtjpgjggbanpegaaDoor.Str
namespace Go.Proofs.YtjpgjggbanpegaaDoor.Str

def keyS (sc : Int) : Int := if 0 ≤ sc ∧ sc ≤ 18 then sc else 99
def keyB (kd sc : Int) (nu : Bool) (n : Int) (s : List UInt8) : List UInt8 :=
  Lib.itoa kd ++ ((if kd = 3 then Lib.itoa (keyS sc / 10) ++ Lib.itoa (keyS sc % 10) else []) ++ (if nu = true then [110] else if kd = 4 then 118 :: (Lib.itoa (s.length : Int) ++ 58 :: s) else 118 :: (Lib.itoa n ++ [59])))
/-- a value that may be, as far as its key wants to know -/
def okB (kd sc : Int) (nu : Bool) (n : Int) (s : List UInt8) : Prop := 1 ≤ kd ∧ kd ≤ 5 ∧ 0 ≤ sc ∧ sc ≤ 18 ∧ (sc = 0 ∨ kd = 3) ∧ (nu = true → n = 0 ∧ s = []) ∧ (nu = false → (kd = 4 → n = 0) ∧ (kd ≠ 4 → s = []))
theorem itoa_digit (n : Int) (h0 : 0 ≤ n) (h : n ≤ 9) : Lib.itoa n = [UInt8.ofNat (48 + n.toNat)] := by
  unfold Lib.itoa
  rw [if_neg (by omega), Lib.decDigits_one (by omega)]
theorem dg_inj {a b : Int} (ha : 0 ≤ a) (ha' : a ≤ 9) (hb : 0 ≤ b) (hb' : b ≤ 9) (h : UInt8.ofNat (48 + a.toNat) = UInt8.ofNat (48 + b.toNat)) : a = b := by
  have := congrArg UInt8.toNat h
  rw [dgc _ (by omega), dgc _ (by omega)] at this
  omega
theorem itoa_no (n : Int) (m : UInt8) (h1 : m ≠ 45) (h2 : isDg m = false) : ∀ c ∈ Lib.itoa n, c ≠ m := by
  intro c hc e
  subst e
  rcases itoa_mem n c hc with h | h
  · exact h1 h
  · rw [h] at h2; cases h2
theorem keyB_ne (kd sc : Int) (nu : Bool) (n : Int) (s : List UInt8) (h : okB kd sc nu n s) : keyB kd sc nu n s ≠ [] := by
  unfold keyB
  rw [itoa_digit kd (by have := h.1; omega) (by have := h.2.1; omega)]
  simp
theorem key_inj {kd sc kd' sc' : Int} {nu nu' : Bool} {n n' : Int} {s s' x y : List UInt8} (h : okB kd sc nu n s) (h' : okB kd' sc' nu' n' s')
    (e : keyB kd sc nu n s ++ x = keyB kd' sc' nu' n' s' ++ y) : (kd = kd' ∧ sc = sc' ∧ nu = nu' ∧ n = n' ∧ s = s') ∧ x = y := by
  obtain ⟨k1, k2, s1, s2, s3, u1, u2⟩ := h
  obtain ⟨k1', k2', s1', s2', s3', u1', u2'⟩ := h'
  unfold keyB at e
  rw [itoa_digit kd (by omega) (by omega), itoa_digit kd' (by omega) (by omega)] at e
  have e1 := (List.cons.inj e).1
  replace e := (List.cons.inj e).2
  change ([] ++ (_ ++ _)) ++ _ = ([] ++ (_ ++ _)) ++ _ at e
  rw [List.nil_append, List.nil_append, List.append_assoc, List.append_assoc] at e
  have ek := dg_inj (a := kd) (b := kd') (by omega) (by omega) (by omega) (by omega) e1
  clear e1
  subst ek
  have hsc : sc = sc' ∧ (if nu = true then [110] else if kd = 4 then 118 :: (Lib.itoa (s.length : Int) ++ 58 :: s) else 118 :: (Lib.itoa n ++ [59])) ++ x = (if nu' = true then [110] else if kd = 4 then 118 :: (Lib.itoa (s'.length : Int) ++ 58 :: s') else 118 :: (Lib.itoa n' ++ [59])) ++ y := by
    by_cases k3 : kd = 3
    · rw [if_pos k3, if_pos k3] at e
      rw [show keyS sc = sc from if_pos ⟨s1, s2⟩, show keyS sc' = sc' from if_pos ⟨s1', s2'⟩, itoa_digit (sc / 10) (by omega) (by omega), itoa_digit (sc % 10) (by omega) (by omega), itoa_digit (sc' / 10) (by omega) (by omega), itoa_digit (sc' % 10) (by omega) (by omega)] at e
      have a1 := (List.cons.inj e).1
      replace e := (List.cons.inj e).2
      have a2 := (List.cons.inj e).1
      have a3 := (List.cons.inj e).2
      have b1 := dg_inj (a := sc / 10) (b := sc' / 10) (by omega) (by omega) (by omega) (by omega) a1
      have b2 := dg_inj (a := sc % 10) (b := sc' % 10) (by omega) (by omega) (by omega) (by omega) a2
      exact ⟨by omega, a3⟩
    · rw [if_neg k3, if_neg k3] at e
      exact ⟨by omega, by simpa using e⟩
  clear e
  obtain ⟨rfl, e⟩ := hsc
  cases nu with
  | true =>
    cases nu' with
    | true =>
      simp only [reduceIte, List.singleton_append, List.cons.injEq, true_and] at e
      obtain ⟨rfl, rfl⟩ := u1 rfl
      obtain ⟨rfl, rfl⟩ := u1' rfl
      exact ⟨⟨rfl, rfl, rfl, rfl, rfl⟩, e⟩
    | false =>
      exfalso
      simp only [reduceIte, Bool.false_eq_true] at e
      split at e <;> simp at e
  | false =>
    cases nu' with
    | true =>
      exfalso
      simp only [reduceIte, Bool.false_eq_true] at e
      split at e <;> simp at e
    | false =>
      simp only [Bool.false_eq_true, if_false] at e
      obtain ⟨v1, v2⟩ := u2 rfl
      obtain ⟨v1', v2'⟩ := u2' rfl
      by_cases k4 : kd = 4
      · rw [if_pos k4, if_pos k4] at e
        simp only [List.cons_append, List.cons.injEq, true_and, List.append_assoc] at e
        obtain ⟨e1, e2⟩ := split_mark (itoa_no _ 58 (by decide) (by decide)) (itoa_no _ 58 (by decide) (by decide)) e
        have hl := itoa_inj e1
        obtain ⟨e3, e4⟩ := List.append_inj e2 (by omega)
        exact ⟨⟨rfl, rfl, rfl, by rw [v1 k4, v1' k4], e3⟩, e4⟩
      · rw [if_neg k4, if_neg k4] at e
        simp only [List.cons_append, List.cons.injEq, true_and, List.append_assoc, List.singleton_append] at e
        obtain ⟨e1, e2⟩ := split_mark (itoa_no _ 59 (by decide) (by decide)) (itoa_no _ 59 (by decide) (by decide)) e
        exact ⟨⟨rfl, rfl, rfl, itoa_inj e1, by rw [v2 k4, v2' k4]⟩, e2⟩
end Go.Proofs.YtjpgjggbanpegaaDoor.Str
