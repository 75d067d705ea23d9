/- NumWrites: what the printed law computes is true, for all whole numbers of 64 bits. -/
import Derived.Test.YtmjpdhledcfjaaaDoorPureWrites
import Derived.Test.YtmjpdhledcfjaaaDoorPureBeg01
import Derived.Test.YtmjpdhledcfjaaaDoorR15
namespace Go.Proofs.YtmjpdhledcfjaaaDoor.Pure
open Go.RowKit Go.Proofs.YtmjpdhledcfjaaaDoor.R Go.Proofs.YtmjpdhledcfjaaaDoorW.PrintWords Go.Proofs.YtmjpdhledcfjaaaDoorW.PrintLast Go.Proofs.YtmjpdhledcfjaaaDoor.Cal
theorem NumWrites (n s : Int) (wn : (Lit.int .i64 n).wf = true) (_ws : (Lit.int .i64 s).wf = true) : ∃ k, colonnadelaw01_NumWrites.f k n s = some true := by
  have hn : In64 n := bounds_i64 wn
  refine ⟨60000, ?_⟩
  have h1 : ∃ r, num_FormatDec.f n s = some r ∧ colonnaderef01_FormatDec.f 60000 n s = some r := by
    by_cases h : 0 ≤ s ∧ s ≤ 18
    · obtain ⟨q, rfl⟩ := Int.eq_ofNat_of_zero_le h.1
      exact ⟨_, FormatDec_is 60000 (by omega) n hn q (by omega)⟩
    · exact ⟨_, FormatDec_no 60000 n s h⟩
  have h2 : ∃ r, num_FormatDay.f 60000 n = some r ∧ colonnaderef01_FormatDay.f 60000 n = some r := by
    by_cases h : n < -719162 ∨ n > 2932896
    · exact ⟨_, FormatDay_no 60000 (by omega) n h⟩
    · obtain ⟨y, m, d, hv, he⟩ := day_of n (by omega) (by omega)
      have hv' := hv
      obtain ⟨a1, _, a3, _, a5, _⟩ := hv'
      obtain ⟨y, rfl⟩ := Int.eq_ofNat_of_zero_le (show 0 ≤ y by omega)
      obtain ⟨m, rfl⟩ := Int.eq_ofNat_of_zero_le (show 0 ≤ m by omega)
      obtain ⟨d, rfl⟩ := Int.eq_ofNat_of_zero_le (show 0 ≤ d by omega)
      exact ⟨_, FormatDay_is 60000 (by omega) y m d n hv he⟩
  obtain ⟨r, a, b⟩ := h1
  obtain ⟨q, c, e⟩ := h2
  unfold colonnadelaw01_NumWrites.f
  rw [a, b, c, e, begun01 60000 (by omega), FormatInt_is n hn, refFormatInt_is 60000 (by omega) n hn]
  simp
end Go.Proofs.YtmjpdhledcfjaaaDoor.Pure
