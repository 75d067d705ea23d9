/- NumSums: what the printed law computes is true, for every two whole numbers of 64 bits. -/
import Derived.Test.YtmjpdhledcfjaaaDoorPureBegun01
import Derived.WalkKit
import Derived.OpenShut
namespace Go.Proofs.YtmjpdhledcfjaaaDoor.Pure
open Go.RowKit Go.Proofs.YtmjpdhledcfjaaaDoor.Q Go.Proofs.YtmjpdhledcfjaaaDoorW.PrintWords Go.Proofs.YtmjpdhledcfjaaaDoorW.PrintLast

theorem wf64 {a : Int} (h : (Lit.int .i64 a).wf = true) : -9223372036854775808 ≤ a ∧ a ≤ 9223372036854775807 := bounds_i64 h

theorem add_same {a b : Int} (ha : -9223372036854775808 ≤ a ∧ a ≤ 9223372036854775807) (hb : -9223372036854775808 ≤ b ∧ b ≤ 9223372036854775807) :
    num_Add.f a b = colonnaderef01_Add.f a b := by
  unfold num_Add.f colonnaderef01_Add.f wrap64
  simp only [beq_iff_eq, decide_eq_decide, gt_iff_lt]
  repeat' split
  all_goals first | rfl | omega

theorem sub_same {a b : Int} (ha : -9223372036854775808 ≤ a ∧ a ≤ 9223372036854775807) (hb : -9223372036854775808 ≤ b ∧ b ≤ 9223372036854775807) :
    num_Sub.f a b = colonnaderef01_Sub.f a b := by
  unfold num_Sub.f colonnaderef01_Sub.f wrap64
  simp only [beq_iff_eq, decide_eq_decide, gt_iff_lt]
  repeat' split
  all_goals first | rfl | omega

theorem add_some (a b : Int) : ∃ r, num_Add.f a b = some r := by unfold num_Add.f; split <;> exact ⟨_, rfl⟩
theorem sub_some (a b : Int) : ∃ r, num_Sub.f a b = some r := by unfold num_Sub.f; split <;> exact ⟨_, rfl⟩

theorem NumSums (a b : Int) (wa : (Lit.int .i64 a).wf = true) (wb : (Lit.int .i64 b).wf = true) : ∃ k, colonnadelaw01_NumSums.f k a b = some true := by
  have ha := wf64 wa
  have hb := wf64 wb
  refine ⟨10, ?_⟩
  obtain ⟨x, hx⟩ := add_some a b
  obtain ⟨y, hy⟩ := sub_some a b
  obtain ⟨z, hz⟩ := sub_some 0 a
  have hx' := (add_same ha hb).symm.trans hx
  have hy' := (sub_same ha hb).symm.trans hy
  have hz' := (sub_same (a := 0) (by omega) ha).symm.trans hz
  unfold colonnadelaw01_NumSums.f num_Neg.f colonnaderef01_Neg.f
  simp [hx, hx', hy, hy', hz, hz', begun01]

end Go.Proofs.YtmjpdhledcfjaaaDoor.Pure
