/- What the printed functions of days compute, in words of the calendar; for whole numbers of 64 bits and enough rounds. -/
import Derived.Test.YtjpgjggbanpegaaGreatDoorCal
import Derived.Test.YtjpgjggbanpegaaGreatDoorE10
import Derived.Test.YtjpgjggbanpegaaGreatDoorE3
import Derived.Test.YtjpgjggbanpegaaGreatDoorE5
import Derived.Test.YtjpgjggbanpegaaGreatDoorE7
import Derived.OpenShut
namespace Go.Proofs.YtjpgjggbanpegaaGreatDoor.Pure
open Go.RowKit Go.Proofs.YtjpgjggbanpegaaGreatDoor.E Go.Proofs.YtjpgjggbanpegaaGreatDoorW.PrintWords Go.Proofs.YtjpgjggbanpegaaGreatDoorW.PrintLast Go.Proofs.YtjpgjggbanpegaaGreatDoor.Cal

theorem wr {x : Int} (h1 : -9223372036854775808 ≤ x) (h2 : x ≤ 9223372036854775807) : wrap64 x = x := by unfold wrap64; omega

theorem tmod_pos {a b : Int} (h : 0 ≤ a) : a.tmod b = a % b := Int.tmod_eq_emod_of_nonneg h
theorem tdiv_pos {a b : Int} (h : 0 ≤ a) : a.tdiv b = a / b := Int.tdiv_eq_ediv_of_nonneg h

theorem leap_is (y : Int) (h : 0 ≤ y) : num_leap.f y = some (lp y) := by
  unfold num_leap.f lp
  simp only [tmod_pos h]
  repeat' split
  all_goals first | rfl | omega
theorem refleap_is (y : Int) (h : 0 ≤ y) : colonnaderef01_leap.f y = some (decide (lp y = 1)) := by
  unfold colonnaderef01_leap.f lp
  simp only [tmod_pos h]
  by_cases a : y % 4 = 0 <;> by_cases b : y % 100 = 0 <;> by_cases c : y % 400 = 0 <;> simp [a, b, c] <;> omega
theorem month_is (y m : Int) (h : 0 ≤ y) (h1 : 1 ≤ m) (h2 : m ≤ 12) : num_month.f y m = some (mlen y m) := by
  have := lp_01 y
  unfold num_month.f mlen
  rw [if_pos h1, if_pos h2, leap_is y h]
  simp only [Option.bind_some]
  rw [wr (by omega) (by omega)]
theorem length_is (k : Nat) (hk : 1 ≤ k) (y m : Int) (h : 0 ≤ y) : colonnaderef01_length.f k y m = some (mlen y m) := by
  obtain ⟨k, rfl⟩ : ∃ j, k = j + 1 := ⟨k - 1, by omega⟩
  have hl := lp_01 y
  unfold colonnaderef01_length.f mlen
  simp only [colonnaderef01_length.j0, refleap_is y h, Option.bind_some]
  by_cases a : m = 4
  · subst a; simp
  · by_cases b : m = 6
    · subst b; simp
    · by_cases c : m = 9
      · subst c; simp
      · by_cases d : m = 11
        · subst d; simp
        · by_cases e : m = 2
          · subst e
            by_cases f : lp y = 1
            · simp [f]
            · have : lp y = 0 := by omega
              simp [this]
          · simp [a, b, c, d, e]
theorem years_is (y : Int) (h : 1 ≤ y) (h2 : y ≤ 100000) : num_years.f y = some (dby y) := by
  unfold num_years.f dby
  rw [wr (x := y - 1) (by omega) (by omega)]
  simp only [tdiv_pos (show 0 ≤ y - 1 by omega)]
  congr 1
  rw [wr (x := (y - 1) * 365) (by omega) (by omega), wr (x := (y - 1) / 4) (by omega) (by omega), wr (x := (y - 1) / 100) (by omega) (by omega), wr (x := (y - 1) / 400) (by omega) (by omega)]
  rw [wr (x := (y - 1) * 365 + (y - 1) / 4) (by omega) (by omega), wr (x := (y - 1) * 365 + (y - 1) / 4 - (y - 1) / 100) (by omega) (by omega), wr (by omega) (by omega)]
theorem before_is (y : Int) (h : 1 ≤ y) (h2 : y ≤ 100000) : colonnaderef01_before.f y = some (dby y) := by
  rw [← years_is y h h2]
  unfold colonnaderef01_before.f num_years.f
  rw [Int.mul_comm 365]

/-! ### from a day to its number -/
theorem day_loop (y m : Int) (hy : 1 ≤ y) (hm : m ≤ 12) : ∀ (d k : Nat) (x j : Int), 1 ≤ j → j + d = m → d < k → -10000000 ≤ x → x ≤ 10000000 → num_Day.l0 k y m x j = some (x + cum y m - cum y j, 0) ∧ colonnaderef01_Day.l0 k y m x j = some (x + cum y m - cum y j, 0) := by
  intro d
  suffices H : ∀ (k : Nat) (x j : Int), 1 ≤ j → j + d = m → d < k → -10000000 - 100 * j ≤ x → x ≤ 10000000 + 100 * j → num_Day.l0 k y m x j = some (x + cum y m - cum y j, 0) ∧ colonnaderef01_Day.l0 k y m x j = some (x + cum y m - cum y j, 0) from fun k x j a b c e f => H k x j a b c (by omega) (by omega)
  induction d with
  | zero =>
    intro k x j h1 h2 hk _ _
    obtain ⟨k, rfl⟩ : ∃ i, k = i + 1 := ⟨k - 1, by omega⟩
    obtain rfl : j = m := by omega
    simp only [num_Day.l0, colonnaderef01_Day.l0]
    rw [if_neg (by omega)]
    refine ⟨?_, ?_⟩
    · congr 2; omega
    · rw [if_neg (by omega)]; congr 2; omega
  | succ d ih =>
    intro k x j h1 h2 hk hx1 hx2
    obtain ⟨k, rfl⟩ : ∃ i, k = i + 1 := ⟨k - 1, by omega⟩
    have hb := mlen_bd y j
    have hs := cum_succ y j h1 (by omega)
    obtain ⟨a, b⟩ := ih k (x + mlen y j) (j + 1) (by omega) (by omega) (by omega) (by omega) (by omega)
    simp only [num_Day.l0, colonnaderef01_Day.l0]
    rw [if_pos (by omega), if_pos (by omega), month_is y j (by omega) h1 (by omega), length_is k (by omega) y j (by omega)]
    simp only [Option.bind_some]
    rw [wr (x := x + mlen y j) (by omega) (by omega), wr (x := j + 1) (by omega) (by omega), a, b, hs]
    refine ⟨?_, ?_⟩ <;> (congr 2; omega)

theorem Day_is (k : Nat) (hk : 20 ≤ k) (y m d : Int) (h : valid y m d) : num_Day.f k y m d = some (num y m d, 0) ∧ colonnaderef01_Day.f k y m d = some (num y m d, 0) := by
  obtain ⟨h1, h2, h3, h4, h5, h6⟩ := h
  obtain ⟨k, rfl⟩ : ∃ i, k = i + 1 := ⟨k - 1, by omega⟩
  have hb := dby_bd h1 (by omega : y ≤ 10000)
  have hl := mlen_bd y m
  unfold num_Day.f colonnaderef01_Day.f
  simp only [num_Day.j0, colonnaderef01_Day.j0]
  rw [month_is y m (by omega) h3 h4, length_is (k + 1) (by omega) y m (by omega), years_is y h1 (by omega), before_is y h1 (by omega)]
  simp only [Option.bind_some]
  have g1 : ¬ (y < 1) := by omega
  have g2 : ¬ (y > 9999) := by omega
  have g3 : ¬ (m < 1) := by omega
  have g4 : ¬ (m > 12) := by omega
  have g5 : ¬ (d < 1) := by omega
  have g6 : decide (d > mlen y m) = false := decide_eq_false (by omega)
  simp only [if_neg g1, if_neg g2, if_neg g3, if_neg g4, if_neg g5, g6, Bool.false_eq_true, if_false]
  rw [wr (x := -719162 + dby y) (by omega) (by omega), wr (x := -719162 + dby y + d) (by omega) (by omega), wr (x := -719162 + dby y + d - 1) (by omega) (by omega), wr (x := dby y + -719162) (by omega) (by omega), wr (x := d - 1) (by omega) (by omega), wr (x := dby y + -719162 + (d - 1)) (by omega) (by omega)]
  have e := cum_one y
  refine ⟨?_, ?_⟩
  · rw [(day_loop y m h1 h4 (m - 1).toNat k _ 1 (by omega) (by omega) (by omega) (by omega) (by omega)).1, e]
    unfold num; congr 2; omega
  · rw [(day_loop y m h1 h4 (m - 1).toNat k _ 1 (by omega) (by omega) (by omega) (by omega) (by omega)).2, e]
    unfold num; congr 2; omega

theorem Day_no (k : Nat) (hk : 20 ≤ k) (y m d : Int) (h : ¬ valid y m d) : num_Day.f k y m d = some (0, 13) ∧ colonnaderef01_Day.f k y m d = some (0, 13) := by
  obtain ⟨k, rfl⟩ : ∃ i, k = i + 1 := ⟨k - 1, by omega⟩
  unfold num_Day.f colonnaderef01_Day.f
  simp only [num_Day.j0, colonnaderef01_Day.j0, if_true]
  by_cases h1 : y < 1
  · rw [if_pos h1, if_pos h1]; exact ⟨rfl, rfl⟩
  rw [if_neg h1, if_neg h1]
  by_cases h2 : y > 9999
  · rw [if_pos h2, if_pos h2]; exact ⟨rfl, rfl⟩
  rw [if_neg h2, if_neg h2]
  by_cases h3 : m < 1
  · rw [if_pos h3, if_pos h3]; exact ⟨rfl, rfl⟩
  rw [if_neg h3, if_neg h3]
  by_cases h4 : m > 12
  · rw [if_pos h4, if_pos h4]; exact ⟨rfl, rfl⟩
  rw [if_neg h4, if_neg h4]
  by_cases h5 : d < 1
  · rw [if_pos h5, if_pos h5]; exact ⟨rfl, rfl⟩
  rw [if_neg h5, if_neg h5]
  rw [month_is y m (by omega) (by omega) (by omega), length_is (k + 1) (by omega) y m (by omega)]
  simp only [Option.bind_some]
  have h6 : d > mlen y m := by
    have : ¬ d ≤ mlen y m := fun h6 => h ⟨by omega, by omega, by omega, by omega, by omega, h6⟩
    omega
  rw [if_pos (by simpa using h6), if_pos (by simpa using h6)]
  exact ⟨rfl, rfl⟩

/-! ### from a number to its day -/
theorem civ_months (y M r : Int) (hy : 1 ≤ y) (hM : M ≤ 12) (h0 : cum y M ≤ r) (h1 : r < cum y (M + 1)) : ∀ (d k : Nat) (j : Int), 1 ≤ j → j + d = M → d + 1 < k →
    num_Civil.l2 k y (r - cum y j) j = some (y, M, r - cum y M + 1, 0) ∧ colonnaderef01_Civil.l1 k y (r - cum y j) j = some (y, M, r - cum y M + 1, 0) := by
  intro d
  induction d with
  | zero =>
    intro k j hj hd hk
    obtain ⟨k, rfl⟩ : ∃ i, k = i + 1 := ⟨k - 1, by omega⟩
    obtain rfl : j = M := by omega
    have hs := cum_succ y j hj (by omega)
    have hb := mlen_bd y j
    simp only [num_Civil.l2, colonnaderef01_Civil.l1]
    rw [month_is y j (by omega) hj (by omega), length_is k (by omega) y j (by omega)]
    simp only [Option.bind_some]
    rw [if_neg (by omega), if_neg (by omega), wr (by omega) (by omega)]
    exact ⟨rfl, rfl⟩
  | succ d ih =>
    intro k j hj hd hk
    obtain ⟨k, rfl⟩ : ∃ i, k = i + 1 := ⟨k - 1, by omega⟩
    have hs := cum_succ y j hj (by omega)
    have hb := mlen_bd y j
    have hm := cum_mono y (a := j + 1) (b := M) (by omega) (by omega) (by omega)
    have c1 := cum_bd y j hj (by omega)
    have c2 := cum_bd y (M + 1) (by omega) (by omega)
    obtain ⟨a, b⟩ := ih k (j + 1) (by omega) (by omega) (by omega)
    simp only [num_Civil.l2, colonnaderef01_Civil.l1]
    rw [month_is y j (by omega) hj (by omega), length_is k (by omega) y j (by omega)]
    simp only [Option.bind_some]
    rw [if_pos (by omega), if_pos (by omega), wr (x := r - cum y j - mlen y j) (by omega) (by omega), wr (x := j + 1) (by omega) (by omega), show r - cum y j - mlen y j = r - cum y (j + 1) from by omega]
    exact ⟨a, b⟩

/-- the years, from below -/
theorem civ_up (Y M D n : Int) (h : valid Y M D) (hn : num Y M D = n) : ∀ (d k : Nat) (y : Int), 1 ≤ y → y + d = Y → d + 20 < k → num_Civil.l1 k (n + 719162) y = some (Y, M, D, 0) ∧ colonnaderef01_Civil.l0 k (n + 719162) y = some (Y, M, D, 0) := by
  have hb := num_bd h
  rw [hn] at hb
  obtain ⟨b1, b2, b3, b4⟩ := hb
  obtain ⟨h1, h2, h3, h4, h5, h6⟩ := h
  intro d
  induction d with
  | zero =>
    intro k y hy hd hk
    obtain ⟨k, rfl⟩ : ∃ i, k = i + 1 := ⟨k - 1, by omega⟩
    obtain rfl : y = Y := by omega
    have hs := cum_succ y M h3 h4
    have e := cum_one y
    have f := dby_bd h1 (by omega : y ≤ 10000)
    have q : n + 719162 - dby y = cum y M + D - 1 := by unfold num at hn; omega
    have c1 := cum_bd y M h3 (by omega)
    obtain ⟨a, b⟩ := civ_months y M (n + 719162 - dby y) hy h4 (by omega) (by omega) (M - 1).toNat k 1 (by omega) (by omega) (by omega)
    simp only [num_Civil.l1, colonnaderef01_Civil.l0]
    rw [wr (x := y + 1) (by omega) (by omega), years_is (y + 1) (by omega) (by omega), before_is (y + 1) (by omega) (by omega), years_is y (by omega) (by omega), before_is y (by omega) (by omega)]
    simp only [Option.bind_some]
    rw [if_neg (by omega), if_neg (by omega), wr (by omega) (by omega)]
    rw [e, Int.sub_zero] at a b
    rw [a, b, show n + 719162 - dby y - cum y M + 1 = D from by omega]
    exact ⟨rfl, rfl⟩
  | succ d ih =>
    intro k y hy hd hk
    obtain ⟨k, rfl⟩ : ∃ i, k = i + 1 := ⟨k - 1, by omega⟩
    obtain ⟨a, b⟩ := ih k (y + 1) (by omega) (by omega) (by omega)
    have hm := dby_mono (a := y + 1) (b := Y) (by omega)
    simp only [num_Civil.l1, colonnaderef01_Civil.l0]
    rw [wr (x := y + 1) (by omega) (by omega), years_is (y + 1) (by omega) (by omega), before_is (y + 1) (by omega) (by omega)]
    simp only [Option.bind_some]
    rw [if_pos (by omega), if_pos (by omega)]
    exact ⟨a, b⟩

/-- the years, from above -/
theorem civ_down (Y M D n : Int) (h : valid Y M D) (hn : num Y M D = n) : ∀ (d k : Nat) (y : Int), y ≤ 20000 → y = 1 + d → d + 20000 < k → num_Civil.l0 k (n + 719162) y = some (Y, M, D, 0) := by
  have hb := num_bd h
  rw [hn] at hb
  obtain ⟨b1, b2, b3, b4⟩ := hb
  intro d
  induction d with
  | zero =>
    intro k y hy hd hk
    obtain ⟨k, rfl⟩ : ∃ i, k = i + 1 := ⟨k - 1, by omega⟩
    obtain rfl : y = 1 := by omega
    have e := dby_one
    simp only [num_Civil.l0]
    rw [years_is 1 (by omega) (by omega), e]
    simp only [Option.bind_some]
    rw [if_neg (by omega)]
    exact (civ_up Y M D n h hn (Y - 1).toNat k 1 (by omega) (by obtain ⟨h1, _⟩ := h; omega) (by obtain ⟨h1, h2, _⟩ := h; omega)).1
  | succ d ih =>
    intro k y hy hd hk
    obtain ⟨k, rfl⟩ : ∃ i, k = i + 1 := ⟨k - 1, by omega⟩
    simp only [num_Civil.l0]
    rw [years_is y (by omega) (by omega)]
    simp only [Option.bind_some]
    by_cases c : dby y > n + 719162
    · rw [if_pos c, wr (by omega) (by omega)]
      exact ih k (y - 1) (by omega) (by omega) (by omega)
    · rw [if_neg c]
      have hY : y ≤ Y := by
        rcases Int.lt_or_le Y y with g | g
        · have := dby_mono (a := Y + 1) (b := y) (by omega); omega
        · exact g
      exact (civ_up Y M D n h hn (Y - y).toNat k y (by omega) (by omega) (by obtain ⟨h1, h2, _⟩ := h; omega)).1

theorem Civil_is (k : Nat) (hk : 60000 ≤ k) (Y M D n : Int) (h : valid Y M D) (hn : num Y M D = n) : num_Civil.f k n = some (Y, M, D, 0) ∧ colonnaderef01_Civil.f k n = some (Y, M, D, 0) := by
  have hb := num_bd h
  rw [hn] at hb
  obtain ⟨b1, b2, b3, b4⟩ := hb
  have hv := h
  obtain ⟨h1, h2, h3, h4, h5, h6⟩ := h
  obtain ⟨k, rfl⟩ : ∃ i, k = i + 1 := ⟨k - 1, by omega⟩
  unfold num_Civil.f colonnaderef01_Civil.f
  simp only [num_Civil.j0, colonnaderef01_Civil.j0]
  have g1 : ¬ (n < -719162) := by omega
  have g2 : decide (n > 2932896) = false := decide_eq_false (by omega)
  simp only [if_neg g1, g2, Bool.false_eq_true, if_false]
  rw [wr (x := n + 719162) (by omega) (by omega), wr (x := (n + 719162) * 400) (by omega) (by omega)]
  rw [tdiv_pos (show 0 ≤ (n + 719162) * 400 by omega), tdiv_pos (show 0 ≤ n + 719162 by omega)]
  rw [wr (x := (n + 719162) * 400 / 146097) (by omega) (by omega), wr (x := (n + 719162) * 400 / 146097 + 1) (by omega) (by omega), wr (x := (n + 719162) / 366) (by omega) (by omega), wr (x := (n + 719162) / 366 + 1) (by omega) (by omega)]
  refine ⟨civ_down Y M D n hv hn ((n + 719162) * 400 / 146097).toNat k _ (by omega) (by omega) (by omega), ?_⟩
  have hg : (n + 719162) / 366 + 1 ≤ Y := by
    have : n + 719162 < Y * 366 := by
      have := dby_mono (a := Y + 1) (b := Y + 1) (by omega)
      unfold dby at b4
      omega
    omega
  exact (civ_up Y M D n hv hn (Y - ((n + 719162) / 366 + 1)).toNat k _ (by omega) (by omega) (by omega)).2

theorem Civil_no (k : Nat) (hk : 1 ≤ k) (n : Int) (h : n < -719162 ∨ n > 2932896) : num_Civil.f k n = some (0, 0, 0, 13) ∧ colonnaderef01_Civil.f k n = some (0, 0, 0, 13) := by
  obtain ⟨k, rfl⟩ : ∃ i, k = i + 1 := ⟨k - 1, by omega⟩
  unfold num_Civil.f colonnaderef01_Civil.f
  simp only [num_Civil.j0, colonnaderef01_Civil.j0, if_true]
  by_cases h1 : n < -719162
  · rw [if_pos h1, if_pos h1]; exact ⟨rfl, rfl⟩
  · rw [if_neg h1, if_neg h1, if_pos (by simp; omega), if_pos (by simp; omega)]; exact ⟨rfl, rfl⟩

end Go.Proofs.YtjpgjggbanpegaaGreatDoor.Pure
