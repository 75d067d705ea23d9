/- NumScales: what the printed law computes is true, for all whole numbers of 64 bits. -/
import Derived.Test.YtmjpdhledcfjaaaDoorPureScale
import Derived.Test.YtmjpdhledcfjaaaDoorPureBeg01
import Derived.Test.YtmjpdhledcfjaaaDoorR26
namespace Go.Proofs.YtmjpdhledcfjaaaDoor.Pure
open Go.RowKit Go.Proofs.YtmjpdhledcfjaaaDoor.R Go.Proofs.YtmjpdhledcfjaaaDoorW.PrintWords Go.Proofs.YtmjpdhledcfjaaaDoorW.PrintLast
theorem NumScales (v f t : Int) (wv : (Lit.int .i64 v).wf = true) (_wf : (Lit.int .i64 f).wf = true) (_wt : (Lit.int .i64 t).wf = true) : ∃ k, colonnadelaw01_NumScales.f k v f t = some true := by
  refine ⟨60, ?_⟩
  obtain ⟨r, h1, h2⟩ := Scale_same 60 (by omega) (bounds_i64 wv) f t
  have h3 : ∃ q, num_Pow10.f 60 f = some q ∧ colonnaderef01_Pow10.f 60 f = some q := by
    by_cases h : 0 ≤ f ∧ f ≤ 18
    · exact ⟨_, Pow10_is 60 (by omega) f h.1 h.2⟩
    · exact ⟨_, Pow10_no 60 (by omega) f h⟩
  obtain ⟨q, h3, h4⟩ := h3
  unfold colonnadelaw01_NumScales.f
  simp [h1, h2, h3, h4, begun01 60 (by omega), (Fits_is v).1, (Fits_is v).2]
end Go.Proofs.YtmjpdhledcfjaaaDoor.Pure
