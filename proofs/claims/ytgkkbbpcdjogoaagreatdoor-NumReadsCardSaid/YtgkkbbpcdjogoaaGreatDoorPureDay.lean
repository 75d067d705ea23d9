/- What the printed functions of days compute, in words of the calendar; for whole numbers of 64 bits and enough rounds. -/
import Derived.Test.YtgkkbbpcdjogoaaGreatDoorCal
import Derived.Test.YtgkkbbpcdjogoaaGreatDoorT10
import Derived.Test.YtgkkbbpcdjogoaaGreatDoorT11
import Derived.Test.YtgkkbbpcdjogoaaGreatDoorT12
import Derived.Test.YtgkkbbpcdjogoaaGreatDoorT8
import Derived.Test.YtgkkbbpcdjogoaaGreatDoorT9
import Derived.OpenShut
namespace Go.Proofs.YtgkkbbpcdjogoaaGreatDoor.Pure
open Go.RowKit Go.Proofs.YtgkkbbpcdjogoaaGreatDoor.T Go.Proofs.YtgkkbbpcdjogoaaGreatDoorW.PrintWords Go.Proofs.YtgkkbbpcdjogoaaGreatDoorW.PrintLast Go.Proofs.YtgkkbbpcdjogoaaGreatDoor.Cal

theorem wr {x : Int} (h1 : -9223372036854775808 ≤ x) (h2 : x ≤ 9223372036854775807) : wrap64 x = x := by unfold wrap64; omega

theorem tmod_pos {a b : Int} (h : 0 ≤ a) : a.tmod b = a % b := Int.tmod_eq_emod_of_nonneg h
theorem tdiv_pos {a b : Int} (h : 0 ≤ a) : a.tdiv b = a / b := Int.tdiv_eq_ediv_of_nonneg h

theorem leap_is (y : Int) (h : 0 ≤ y) : num_leap.f y = some (lp y) := by
  unfold num_leap.f lp
  simp only [tmod_pos h]
  repeat' split
  all_goals first | rfl | omega
theorem refleap_is (y : Int) (h : 0 ≤ y) : colonnaderef01_leap.f y = some (decide (lp y = 1)) := by
  unfold colonnaderef01_leap.f lp
  simp only [tmod_pos h]
  by_cases a : y % 4 = 0 <;> by_cases b : y % 100 = 0 <;> by_cases c : y % 400 = 0 <;> simp [a, b, c] <;> omega
theorem month_is (y m : Int) (h : 0 ≤ y) (h1 : 1 ≤ m) (h2 : m ≤ 12) : num_month.f y m = some (mlen y m) := by
  have := lp_01 y
  unfold num_month.f mlen
  rw [if_pos h1, if_pos h2, leap_is y h]
  simp only [Option.bind_some]
  rw [wr (by omega) (by omega)]
theorem length_is (k : Nat) (hk : 1 ≤ k) (y m : Int) (h : 0 ≤ y) : colonnaderef01_length.f k y m = some (mlen y m) := by
  obtain ⟨k, rfl⟩ : ∃ j, k = j + 1 := ⟨k - 1, by omega⟩
  have hl := lp_01 y
  unfold colonnaderef01_length.f mlen
  simp only [colonnaderef01_length.j0, refleap_is y h, Option.bind_some]
  by_cases a : m = 4
  · subst a; simp
  · by_cases b : m = 6
    · subst b; simp
    · by_cases c : m = 9
      · subst c; simp
      · by_cases d : m = 11
        · subst d; simp
        · by_cases e : m = 2
          · subst e
            by_cases f : lp y = 1
            · simp [f]
            · have : lp y = 0 := by omega
              simp [this]
          · simp [a, b, c, d, e]
theorem years_is (y : Int) (h : 1 ≤ y) (h2 : y ≤ 100000) : num_years.f y = some (dby y) := by
  unfold num_years.f dby
  rw [wr (x := y - 1) (by omega) (by omega)]
  simp only [tdiv_pos (show 0 ≤ y - 1 by omega)]
  congr 1
  rw [wr (x := (y - 1) * 365) (by omega) (by omega), wr (x := (y - 1) / 4) (by omega) (by omega), wr (x := (y - 1) / 100) (by omega) (by omega), wr (x := (y - 1) / 400) (by omega) (by omega)]
  rw [wr (x := (y - 1) * 365 + (y - 1) / 4) (by omega) (by omega), wr (x := (y - 1) * 365 + (y - 1) / 4 - (y - 1) / 100) (by omega) (by omega), wr (by omega) (by omega)]
theorem before_is (y : Int) (h : 1 ≤ y) (h2 : y ≤ 100000) : colonnaderef01_before.f y = some (dby y) := by
  rw [← years_is y h h2]
  unfold colonnaderef01_before.f num_years.f
  rw [Int.mul_comm 365]

/-! ### from a day to its number -/
theorem day_loop (y m : Int) (hy : 1 ≤ y) (hm : m ≤ 12) : ∀ (d k : Nat) (x j : Int), 1 ≤ j → j + d = m → d < k → -10000000 ≤ x → x ≤ 10000000 → num_Day.l0 k y m x j = some (x + cum y m - cum y j, 0) ∧ colonnaderef01_Day.l0 k y m x j = some (x + cum y m - cum y j, 0) := by
  intro d
  suffices H : ∀ (k : Nat) (x j : Int), 1 ≤ j → j + d = m → d < k → -10000000 - 100 * j ≤ x → x ≤ 10000000 + 100 * j → num_Day.l0 k y m x j = some (x + cum y m - cum y j, 0) ∧ colonnaderef01_Day.l0 k y m x j = some (x + cum y m - cum y j, 0) from fun k x j a b c e f => H k x j a b c (by omega) (by omega)
  induction d with
  | zero =>
    intro k x j h1 h2 hk _ _
    obtain ⟨k, rfl⟩ : ∃ i, k = i + 1 := ⟨k - 1, by omega⟩
    obtain rfl : j = m := by omega
    simp only [num_Day.l0, colonnaderef01_Day.l0]
    rw [if_neg (by omega)]
    refine ⟨?_, ?_⟩
    · congr 2; omega
    · rw [if_neg (by omega)]; congr 2; omega
  | succ d ih =>
    intro k x j h1 h2 hk hx1 hx2
    obtain ⟨k, rfl⟩ : ∃ i, k = i + 1 := ⟨k - 1, by omega⟩
    have hb := mlen_bd y j
    have hs := cum_succ y j h1 (by omega)
    obtain ⟨a, b⟩ := ih k (x + mlen y j) (j + 1) (by omega) (by omega) (by omega) (by omega) (by omega)
    simp only [num_Day.l0, colonnaderef01_Day.l0]
    rw [if_pos (by omega), if_pos (by omega), month_is y j (by omega) h1 (by omega), length_is k (by omega) y j (by omega)]
    simp only [Option.bind_some]
    rw [wr (x := x + mlen y j) (by omega) (by omega), wr (x := j + 1) (by omega) (by omega), a, b, hs]
    refine ⟨?_, ?_⟩ <;> (congr 2; omega)

theorem Day_is (k : Nat) (hk : 20 ≤ k) (y m d : Int) (h : valid y m d) : num_Day.f k y m d = some (num y m d, 0) ∧ colonnaderef01_Day.f k y m d = some (num y m d, 0) := by
  obtain ⟨h1, h2, h3, h4, h5, h6⟩ := h
  obtain ⟨k, rfl⟩ : ∃ i, k = i + 1 := ⟨k - 1, by omega⟩
  have hb := dby_bd h1 (by omega : y ≤ 10000)
  have hl := mlen_bd y m
  unfold num_Day.f colonnaderef01_Day.f
  simp only [num_Day.j0, colonnaderef01_Day.j0]
  rw [month_is y m (by omega) h3 h4, length_is (k + 1) (by omega) y m (by omega), years_is y h1 (by omega), before_is y h1 (by omega)]
  simp only [Option.bind_some]
  have g1 : ¬ (y < 1) := by omega
  have g2 : ¬ (y > 9999) := by omega
  have g3 : ¬ (m < 1) := by omega
  have g4 : ¬ (m > 12) := by omega
  have g5 : ¬ (d < 1) := by omega
  have g6 : decide (d > mlen y m) = false := decide_eq_false (by omega)
  simp only [if_neg g1, if_neg g2, if_neg g3, if_neg g4, if_neg g5, g6, Bool.false_eq_true, if_false]
  rw [wr (x := -719162 + dby y) (by omega) (by omega), wr (x := -719162 + dby y + d) (by omega) (by omega), wr (x := -719162 + dby y + d - 1) (by omega) (by omega), wr (x := dby y + -719162) (by omega) (by omega), wr (x := d - 1) (by omega) (by omega), wr (x := dby y + -719162 + (d - 1)) (by omega) (by omega)]
  have e := cum_one y
  refine ⟨?_, ?_⟩
  · rw [(day_loop y m h1 h4 (m - 1).toNat k _ 1 (by omega) (by omega) (by omega) (by omega) (by omega)).1, e]
    unfold num; congr 2; omega
  · rw [(day_loop y m h1 h4 (m - 1).toNat k _ 1 (by omega) (by omega) (by omega) (by omega) (by omega)).2, e]
    unfold num; congr 2; omega

theorem Day_no (k : Nat) (hk : 20 ≤ k) (y m d : Int) (h : ¬ valid y m d) : num_Day.f k y m d = some (0, 13) ∧ colonnaderef01_Day.f k y m d = some (0, 13) := by
  obtain ⟨k, rfl⟩ : ∃ i, k = i + 1 := ⟨k - 1, by omega⟩
  unfold num_Day.f colonnaderef01_Day.f
  simp only [num_Day.j0, colonnaderef01_Day.j0, if_true]
  by_cases h1 : y < 1
  · rw [if_pos h1, if_pos h1]; exact ⟨rfl, rfl⟩
  rw [if_neg h1, if_neg h1]
  by_cases h2 : y > 9999
  · rw [if_pos h2, if_pos h2]; exact ⟨rfl, rfl⟩
  rw [if_neg h2, if_neg h2]
  by_cases h3 : m < 1
  · rw [if_pos h3, if_pos h3]; exact ⟨rfl, rfl⟩
  rw [if_neg h3, if_neg h3]
  by_cases h4 : m > 12
  · rw [if_pos h4, if_pos h4]; exact ⟨rfl, rfl⟩
  rw [if_neg h4, if_neg h4]
  by_cases h5 : d < 1
  · rw [if_pos h5, if_pos h5]; exact ⟨rfl, rfl⟩
  rw [if_neg h5, if_neg h5]
  rw [month_is y m (by omega) (by omega) (by omega), length_is (k + 1) (by omega) y m (by omega)]
  simp only [Option.bind_some]
  have h6 : d > mlen y m := by
    have : ¬ d ≤ mlen y m := fun h6 => h ⟨by omega, by omega, by omega, by omega, by omega, h6⟩
    omega
  rw [if_pos (by simpa using h6), if_pos (by simpa using h6)]
  exact ⟨rfl, rfl⟩

/-! ### from a number to its day -/
end Go.Proofs.YtgkkbbpcdjogoaaGreatDoor.Pure
