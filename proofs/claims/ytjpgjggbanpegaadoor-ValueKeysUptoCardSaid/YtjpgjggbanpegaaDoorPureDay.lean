/- What the printed functions of days compute, in words of the calendar; for whole numbers of 64 bits and enough rounds. -/
import Derived.Test.YtjpgjggbanpegaaDoorCal
import Derived.Test.YtjpgjggbanpegaaDoorV4
import Derived.OpenShut
namespace Go.Proofs.YtjpgjggbanpegaaDoor.Pure
open Go.RowKit Go.Proofs.YtjpgjggbanpegaaDoor.V Go.Proofs.YtjpgjggbanpegaaDoorW.PrintWords Go.Proofs.YtjpgjggbanpegaaDoorW.PrintLast Go.Proofs.YtjpgjggbanpegaaDoor.Cal

theorem wr {x : Int} (h1 : -9223372036854775808 ≤ x) (h2 : x ≤ 9223372036854775807) : wrap64 x = x := by unfold wrap64; omega

theorem tmod_pos {a b : Int} (h : 0 ≤ a) : a.tmod b = a % b := Int.tmod_eq_emod_of_nonneg h
theorem tdiv_pos {a b : Int} (h : 0 ≤ a) : a.tdiv b = a / b := Int.tdiv_eq_ediv_of_nonneg h

theorem leap_is (y : Int) (h : 0 ≤ y) : num_leap.f y = some (lp y) := by
  unfold num_leap.f lp
  simp only [tmod_pos h]
  repeat' split
  all_goals first | rfl | omega
theorem month_is (y m : Int) (h : 0 ≤ y) (h1 : 1 ≤ m) (h2 : m ≤ 12) : num_month.f y m = some (mlen y m) := by
  have := lp_01 y
  unfold num_month.f mlen
  rw [if_pos h1, if_pos h2, leap_is y h]
  simp only [Option.bind_some]
  rw [wr (by omega) (by omega)]
theorem years_is (y : Int) (h : 1 ≤ y) (h2 : y ≤ 100000) : num_years.f y = some (dby y) := by
  unfold num_years.f dby
  rw [wr (x := y - 1) (by omega) (by omega)]
  simp only [tdiv_pos (show 0 ≤ y - 1 by omega)]
  congr 1
  rw [wr (x := (y - 1) * 365) (by omega) (by omega), wr (x := (y - 1) / 4) (by omega) (by omega), wr (x := (y - 1) / 100) (by omega) (by omega), wr (x := (y - 1) / 400) (by omega) (by omega)]
  rw [wr (x := (y - 1) * 365 + (y - 1) / 4) (by omega) (by omega), wr (x := (y - 1) * 365 + (y - 1) / 4 - (y - 1) / 100) (by omega) (by omega), wr (by omega) (by omega)]
end Go.Proofs.YtjpgjggbanpegaaDoor.Pure
