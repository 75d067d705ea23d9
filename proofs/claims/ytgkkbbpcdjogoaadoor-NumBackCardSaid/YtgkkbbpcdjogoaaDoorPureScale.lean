/- Powers of ten, and decimals with another number of digits behind the point: num and the reference compute the same. -/
import Derived.Test.YtgkkbbpcdjogoaaDoorPureMul
import Derived.Test.YtgkkbbpcdjogoaaDoorT1
import Derived.Test.YtgkkbbpcdjogoaaDoorT6
namespace Go.Proofs.YtgkkbbpcdjogoaaDoor.Pure
open Go.RowKit Go.Proofs.YtgkkbbpcdjogoaaDoor.T Go.Proofs.YtgkkbbpcdjogoaaDoorW.PrintWords Go.Proofs.YtgkkbbpcdjogoaaDoorW.PrintLast Go.Proofs.YtgkkbbpcdjogoaaDoor.Wide

theorem scale_is (n : Int) : num_scale.f n = some (decide (0 ≤ n ∧ n ≤ 18)) := by
  unfold num_scale.f
  by_cases h : n ≥ 0
  · rw [if_pos h]; congr 1; simp [show 0 ≤ n from h]
  · rw [if_neg h]; congr 1; symm; exact decide_eq_false (by omega)

/-- the power of ten -/
def p10 (n : Int) : Int := 10 ^ n.toNat
theorem p10_0 : p10 0 = 1 := rfl
theorem p10_succ {n : Int} (h : 0 ≤ n) : p10 (n + 1) = p10 n * 10 := by
  unfold p10
  rw [show (n + 1).toNat = n.toNat + 1 from by omega, Int.pow_succ]
theorem p10_cases {n : Int} (h : 0 ≤ n) (h2 : n ≤ 18) : n = 0 ∨ n = 1 ∨ n = 2 ∨ n = 3 ∨ n = 4 ∨ n = 5 ∨ n = 6 ∨ n = 7 ∨ n = 8 ∨ n = 9 ∨ n = 10 ∨ n = 11 ∨ n = 12 ∨ n = 13 ∨ n = 14 ∨ n = 15 ∨ n = 16 ∨ n = 17 ∨ n = 18 := by omega
theorem p10_bd {n : Int} (h : 0 ≤ n) (h2 : n ≤ 18) : 1 ≤ p10 n ∧ p10 n ≤ 1000000000000000000 := by
  rcases p10_cases h h2 with rfl | rfl | rfl | rfl | rfl | rfl | rfl | rfl | rfl | rfl | rfl | rfl | rfl | rfl | rfl | rfl | rfl | rfl | rfl <;> decide

end Go.Proofs.YtgkkbbpcdjogoaaDoor.Pure
