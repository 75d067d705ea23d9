/- bits.Len64, codec.Size: they end. -/
import Derived.Test.YtmeopdjdjmjngaaGreatDoorCodI11
set_option linter.unusedVariables false
set_option linter.unusedSimpArgs false
namespace Go.Proofs.YtmeopdjdjmjngaaGreatDoor.Cod
open Go.RowKit Go.Lib Go.Proofs.YtmeopdjdjmjngaaGreatDoorW.PrintWords Go.Proofs.YtmeopdjdjmjngaaGreatDoorW.PrintLast
set_option maxHeartbeats 4000000 in
set_option maxRecDepth 100000 in
theorem len64_any (n : Int) (h0 : 0 ≤ n) (h1 : n < 18446744073709551616) (W : World) : Calls Tryz.prog 183 #[.int .u64 n] W fun e w' => ∃ r, e = .returned (.int .i64 r) ∧ Below W.heap.size W w' := by
  by_cases c : n ≥ 4294967296
  · have c1 : decide (n ≥ 4294967296) = true := decide_eq_true c
    by_cases d : n / 4294967296 ≥ 65536
    · have d1 : decide (n / 4294967296 ≥ 65536) = true := decide_eq_true d
      by_cases f : n / 4294967296 / 65536 ≥ 256
      · have f1 : decide (n / 4294967296 / 65536 ≥ 256) = true := decide_eq_true f
        go_enter Tryz.func183, Tryz.ntmps183
        go_wp2
        go_ret
        exact ⟨_, rfl, Below.refl _ _⟩
      · have f1 : decide (n / 4294967296 / 65536 ≥ 256) = false := decide_eq_false f
        go_enter Tryz.func183, Tryz.ntmps183
        go_wp2
        go_ret
        exact ⟨_, rfl, Below.refl _ _⟩
    · have d1 : decide (n / 4294967296 ≥ 65536) = false := decide_eq_false d
      by_cases f : n / 4294967296 ≥ 256
      · have f1 : decide (n / 4294967296 ≥ 256) = true := decide_eq_true f
        go_enter Tryz.func183, Tryz.ntmps183
        go_wp2
        go_ret
        exact ⟨_, rfl, Below.refl _ _⟩
      · have f1 : decide (n / 4294967296 ≥ 256) = false := decide_eq_false f
        go_enter Tryz.func183, Tryz.ntmps183
        go_wp2
        go_ret
        exact ⟨_, rfl, Below.refl _ _⟩
  · have c1 : decide (n ≥ 4294967296) = false := decide_eq_false c
    by_cases d : n ≥ 65536
    · have d1 : decide (n ≥ 65536) = true := decide_eq_true d
      by_cases f : n / 65536 ≥ 256
      · have f1 : decide (n / 65536 ≥ 256) = true := decide_eq_true f
        go_enter Tryz.func183, Tryz.ntmps183
        go_wp2
        go_ret
        exact ⟨_, rfl, Below.refl _ _⟩
      · have f1 : decide (n / 65536 ≥ 256) = false := decide_eq_false f
        go_enter Tryz.func183, Tryz.ntmps183
        go_wp2
        go_ret
        exact ⟨_, rfl, Below.refl _ _⟩
    · have d1 : decide (n ≥ 65536) = false := decide_eq_false d
      by_cases f : n ≥ 256
      · have f1 : decide (n ≥ 256) = true := decide_eq_true f
        go_enter Tryz.func183, Tryz.ntmps183
        go_wp2
        go_ret
        exact ⟨_, rfl, Below.refl _ _⟩
      · have f1 : decide (n ≥ 256) = false := decide_eq_false f
        go_enter Tryz.func183, Tryz.ntmps183
        go_wp2
        go_ret
        exact ⟨_, rfl, Below.refl _ _⟩
set_option maxHeartbeats 4000000 in
set_option maxRecDepth 100000 in
theorem size_big (n : Int) (h0 : 120 ≤ n) (h1 : n < 9223372036854775808) (W : World) : Calls Tryz.prog 150 #[.int .i64 n] W fun e w' => ∃ r, e = .returned (.int .i64 r) ∧ Below W.heap.size W w' := by
  have hn : ¬ (n < 0) := by omega
  have hs : ¬ (n < 120) := by omega
  have LN := Aside0.mk (fun (m : Int) (q0 : 0 ≤ m) (q1 : m < 18446744073709551616) => len64_any m q0 q1 W)
  go_enter Tryz.func150, Tryz.ntmps150
  go_wp2_with (go_at_call 183; refine (LN.out _ ?q0 ?q1).mono ?_; (case q0 => first | omega | (unfold IntKind.wrap; omega)); (case q1 => first | omega | (unfold IntKind.wrap; omega)); rintro e w1 ⟨r, rfl, hb⟩; have HB := Aside0.mk hb; clear hb)
  go_ret
  exact ⟨_, rfl, HB.out⟩
end Go.Proofs.YtmeopdjdjmjngaaGreatDoor.Cod
