/- What the printed functions of products compute, for whole numbers of 64 bits. -/
import Derived.Test.YtmeopdjdjmjngaaGreatDoorWide
import Derived.Test.YtmeopdjdjmjngaaGreatDoorA1
import Derived.Test.YtmeopdjdjmjngaaGreatDoorA4
import Derived.OpenShut
namespace Go.Proofs.YtmeopdjdjmjngaaGreatDoor.Pure
open Go.RowKit Go.Proofs.YtmeopdjdjmjngaaGreatDoor.A Go.Proofs.YtmeopdjdjmjngaaGreatDoorW.PrintWords Go.Proofs.YtmeopdjdjmjngaaGreatDoorW.PrintLast Go.Proofs.YtmeopdjdjmjngaaGreatDoor.Wide

def In64 (a : Int) : Prop := -9223372036854775808 ≤ a ∧ a ≤ 9223372036854775807
def InU (a : Int) : Prop := 0 ≤ a ∧ a < 18446744073709551616
theorem InU_U (x : Int) : InU (U x) := by unfold InU; rw [U_mod]; omega
theorem w64_mod (x : Int) : wrap64 x = (x + 9223372036854775808) % 18446744073709551616 - 9223372036854775808 := by unfold wrap64; rfl

theorem amount_is (a : Int) (ha : In64 a) : ∃ m, colonnaderef01_amount.f a = some m ∧ InU m ∧ m ≤ 9223372036854775808 ∧ m = if a < 0 then -a else a := by
  obtain ⟨h1, h2⟩ := ha
  unfold colonnaderef01_amount.f InU
  simp only [IntKind.wrap_u64]
  by_cases c : a < 0
  · rw [if_pos c]; refine ⟨_, rfl, ?_, ?_, ?_⟩ <;> (try simp only [if_pos c]) <;> omega
  · rw [if_neg c]; refine ⟨_, rfl, ?_, ?_, ?_⟩ <;> (try simp only [if_neg c]) <;> omega

theorem Narrow_is {h l : Int} (hh : In64 h) (hl : InU l) : (In64 (h * 18446744073709551616 + l) → num_Narrow.f h l = some (h * 18446744073709551616 + l, 0)) ∧ (¬ In64 (h * 18446744073709551616 + l) → num_Narrow.f h l = some (0, 10)) := by
  obtain ⟨h1, h2⟩ := hh
  obtain ⟨l1, l2⟩ := hl
  unfold num_Narrow.f In64
  simp only [w64_mod]
  refine ⟨fun c => ?_, fun c => ?_⟩
  · rw [if_pos (by omega)]; congr 2; omega
  · rw [if_neg (by omega)]

end Go.Proofs.YtmeopdjdjmjngaaGreatDoor.Pure
