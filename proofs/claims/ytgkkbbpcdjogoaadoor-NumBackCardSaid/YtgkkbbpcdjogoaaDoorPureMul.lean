/- What the printed functions of products compute, for whole numbers of 64 bits. -/
import Derived.Test.YtgkkbbpcdjogoaaDoorWide
import Derived.Test.YtgkkbbpcdjogoaaDoorT99
import Derived.OpenShut
namespace Go.Proofs.YtgkkbbpcdjogoaaDoor.Pure
open Go.RowKit Go.Proofs.YtgkkbbpcdjogoaaDoor.T Go.Proofs.YtgkkbbpcdjogoaaDoorW.PrintWords Go.Proofs.YtgkkbbpcdjogoaaDoorW.PrintLast Go.Proofs.YtgkkbbpcdjogoaaDoor.Wide

def In64 (a : Int) : Prop := -9223372036854775808 ≤ a ∧ a ≤ 9223372036854775807
def InU (a : Int) : Prop := 0 ≤ a ∧ a < 18446744073709551616
theorem InU_U (x : Int) : InU (U x) := by unfold InU; rw [U_mod]; omega
theorem w64_mod (x : Int) : wrap64 x = (x + 9223372036854775808) % 18446744073709551616 - 9223372036854775808 := by unfold wrap64; rfl

theorem amount_is (a : Int) (ha : In64 a) : ∃ m, colonnaderef01_amount.f a = some m ∧ InU m ∧ m ≤ 9223372036854775808 ∧ m = if a < 0 then -a else a := by
  obtain ⟨h1, h2⟩ := ha
  unfold colonnaderef01_amount.f InU
  simp only [IntKind.wrap_u64]
  by_cases c : a < 0
  · rw [if_pos c]; refine ⟨_, rfl, ?_, ?_, ?_⟩ <;> (try simp only [if_pos c]) <;> omega
  · rw [if_neg c]; refine ⟨_, rfl, ?_, ?_, ?_⟩ <;> (try simp only [if_neg c]) <;> omega

end Go.Proofs.YtgkkbbpcdjogoaaDoor.Pure
