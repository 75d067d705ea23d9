/- The calendar in whole numbers: leap years, days before a year, lengths of months. No program. -/
import Derived.WalkKit
namespace Go.Proofs.YtjpgjggbanpegaaGreatDoor.Cal

def lp (y : Int) : Int := if y % 4 = 0 then (if y % 100 = 0 then (if y % 400 = 0 then 1 else 0) else 1) else 0
def dby (y : Int) : Int := (y - 1) * 365 + (y - 1) / 4 - (y - 1) / 100 + (y - 1) / 400
def mlen (y m : Int) : Int := if m = 2 then 28 + lp y else if m = 4 ∨ m = 6 ∨ m = 9 ∨ m = 11 then 30 else 31
def cumT (m : Int) : Int := if m ≤ 1 then 0 else if m = 2 then 31 else if m = 3 then 59 else if m = 4 then 90 else if m = 5 then 120 else if m = 6 then 151 else if m = 7 then 181 else if m = 8 then 212 else if m = 9 then 243 else if m = 10 then 273 else if m = 11 then 304 else if m = 12 then 334 else 365
def cum (y m : Int) : Int := cumT m + if 2 < m then lp y else 0

theorem lp_01 (y : Int) : 0 ≤ lp y ∧ lp y ≤ 1 := by unfold lp; repeat' split <;> omega
theorem dby_succ (y : Int) : dby (y + 1) = dby y + 365 + lp y := by
  unfold dby lp
  repeat' split
  all_goals omega
theorem mlen_bd (y m : Int) : 28 ≤ mlen y m ∧ mlen y m ≤ 31 := by
  have := lp_01 y
  unfold mlen
  repeat' split
  all_goals omega
theorem m_cases {m : Int} (h1 : 1 ≤ m) (h2 : m ≤ 12) : m = 1 ∨ m = 2 ∨ m = 3 ∨ m = 4 ∨ m = 5 ∨ m = 6 ∨ m = 7 ∨ m = 8 ∨ m = 9 ∨ m = 10 ∨ m = 11 ∨ m = 12 := by omega
theorem cum_succ (y m : Int) (h1 : 1 ≤ m) (h2 : m ≤ 12) : cum y (m + 1) = cum y m + mlen y m := by
  unfold cum mlen cumT
  rcases m_cases h1 h2 with rfl | rfl | rfl | rfl | rfl | rfl | rfl | rfl | rfl | rfl | rfl | rfl <;> simp <;> omega
theorem cum_bd (y m : Int) (h1 : 1 ≤ m) (h2 : m ≤ 13) : 0 ≤ cum y m ∧ cum y m ≤ 366 := by
  have := lp_01 y
  rcases (by omega : m = 1 ∨ m = 2 ∨ m = 3 ∨ m = 4 ∨ m = 5 ∨ m = 6 ∨ m = 7 ∨ m = 8 ∨ m = 9 ∨ m = 10 ∨ m = 11 ∨ m = 12 ∨ m = 13) with rfl | rfl | rfl | rfl | rfl | rfl | rfl | rfl | rfl | rfl | rfl | rfl | rfl <;> simp [cum, cumT] <;> omega
theorem cum_one (y : Int) : cum y 1 = 0 := by simp [cum, cumT]
theorem cum_13 (y : Int) : cum y 13 = 365 + lp y := by simp [cum, cumT]
theorem dby_mono {a b : Int} (h : a ≤ b) : dby a ≤ dby b := by unfold dby; omega
theorem dby_bd {a : Int} (h0 : 1 ≤ a) (h : a ≤ 10000) : 0 ≤ dby a ∧ dby a ≤ 3652059 := by unfold dby; omega
theorem dby_one : dby 1 = 0 := by decide
theorem dby_max : dby 10000 = 3652059 := by decide
theorem cum_mono (y : Int) {a b : Int} (h1 : 1 ≤ a) (h : a ≤ b) (h2 : b ≤ 13) : cum y a ≤ cum y b := by
  have e : ∀ d : Nat, ∀ c : Int, a + d = c → c ≤ 13 → cum y a ≤ cum y c := by
    intro d
    induction d with
    | zero => intro c hc _; obtain rfl : c = a := by omega
              exact Int.le_refl _
    | succ d ih =>
      intro c hc h13
      have := ih (c - 1) (by omega) (by omega)
      have hs := cum_succ y (c - 1) (by omega) (by omega)
      rw [show c - 1 + 1 = c from by omega] at hs
      have := mlen_bd y (c - 1)
      omega
  exact e (b - a).toNat b (by omega) h2

/-- A day's number out of year, month, day. -/
def num (y m d : Int) : Int := -719162 + dby y + cum y m + d - 1
def valid (y m d : Int) : Prop := 1 ≤ y ∧ y ≤ 9999 ∧ 1 ≤ m ∧ m ≤ 12 ∧ 1 ≤ d ∧ d ≤ mlen y m

theorem num_bd {y m d : Int} (h : valid y m d) : -719162 ≤ num y m d ∧ num y m d ≤ 2932896 ∧ dby y ≤ num y m d + 719162 ∧ num y m d + 719162 < dby (y + 1) := by
  obtain ⟨h1, h2, h3, h4, h5, h6⟩ := h
  have a := dby_succ y
  have b := cum_succ y m h3 h4
  have c := cum_mono y (a := m + 1) (b := 13) (by omega) (by omega) (by omega)
  have c13 := cum_13 y
  have d0 := cum_bd y m h3 (by omega)
  have e := dby_mono (a := y + 1) (b := 10000) (by omega)
  have f := dby_bd h1 (by omega : y ≤ 10000)
  have g := dby_max
  unfold num
  omega

/-- Every number in the range is some day's. -/
theorem year_of (n : Int) (h0 : 0 ≤ n) : ∀ d : Nat, ∀ y : Int, 1 ≤ y → dby y ≤ n → n < dby (y + d) → ∃ Y, y ≤ Y ∧ Y < y + d ∧ dby Y ≤ n ∧ n < dby (Y + 1) := by
  intro d
  induction d with
  | zero => intro y _ h h'; simp at h'; omega
  | succ d ih =>
    intro y h1 h h'
    by_cases c : n < dby (y + 1)
    · exact ⟨y, by omega, by omega, h, c⟩
    · obtain ⟨Y, a, b, e, f⟩ := ih (y + 1) (by omega) (by omega) (by rw [show y + 1 + (d : Int) = y + ((d + 1 : Nat) : Int) from by omega]; exact h')
      exact ⟨Y, by omega, by omega, e, f⟩
theorem month_of (y r : Int) (h0 : 0 ≤ r) : ∀ d : Nat, ∀ m : Int, 1 ≤ m → m + d ≤ 13 → cum y m ≤ r → r < cum y (m + d) → ∃ M, m ≤ M ∧ M < m + d ∧ cum y M ≤ r ∧ r < cum y (M + 1) := by
  intro d
  induction d with
  | zero => intro m _ _ h h'; simp at h'; omega
  | succ d ih =>
    intro m h1 h13 h h'
    by_cases c : r < cum y (m + 1)
    · exact ⟨m, by omega, by omega, h, c⟩
    · obtain ⟨M, a, b, e, f⟩ := ih (m + 1) (by omega) (by omega) (by omega) (by rw [show m + 1 + (d : Int) = m + ((d + 1 : Nat) : Int) from by omega]; exact h')
      exact ⟨M, by omega, by omega, e, f⟩
theorem day_of (n : Int) (h1 : -719162 ≤ n) (h2 : n ≤ 2932896) : ∃ y m d, valid y m d ∧ num y m d = n := by
  obtain ⟨Y, a, b, e, f⟩ := year_of (n + 719162) (by omega) 9999 1 (by omega) (by rw [dby_one]; omega) (by have := dby_max; simp; omega)
  have s := dby_succ Y
  obtain ⟨M, a', b', e', f'⟩ := month_of Y (n + 719162 - dby Y) (by omega) 12 1 (by omega) (by simp) (by rw [cum_one]; omega) (by have := cum_13 Y; simp; omega)
  have g := cum_succ Y M (by omega) (by omega)
  simp at b b'
  refine ⟨Y, M, n + 719162 - dby Y - cum Y M + 1, ⟨by omega, by omega, by omega, by omega, by omega, by omega⟩, by unfold num; omega⟩

end Go.Proofs.YtjpgjggbanpegaaGreatDoor.Cal
