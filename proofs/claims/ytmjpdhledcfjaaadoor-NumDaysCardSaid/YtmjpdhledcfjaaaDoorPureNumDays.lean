/- NumDays: what the printed law computes is true, for all whole numbers of 64 bits. -/
import Derived.Test.YtmjpdhledcfjaaaDoorPureDay
import Derived.Test.YtmjpdhledcfjaaaDoorPureBeg01
import Derived.Test.YtmjpdhledcfjaaaDoorR20
namespace Go.Proofs.YtmjpdhledcfjaaaDoor.Pure
open Go.RowKit Go.Proofs.YtmjpdhledcfjaaaDoor.R Go.Proofs.YtmjpdhledcfjaaaDoorW.PrintWords Go.Proofs.YtmjpdhledcfjaaaDoorW.PrintLast Go.Proofs.YtmjpdhledcfjaaaDoor.Cal
theorem NumDays (y m d n : Int) (_wy : (Lit.int .i64 y).wf = true) (_wm : (Lit.int .i64 m).wf = true) (_wd : (Lit.int .i64 d).wf = true) (_wn : (Lit.int .i64 n).wf = true) : ∃ k, colonnadelaw01_NumDays.f k y m d n = some true := by
  refine ⟨60000, ?_⟩
  have h1 : ∃ r, num_Day.f 60000 y m d = some r ∧ colonnaderef01_Day.f 60000 y m d = some r := by
    by_cases h : valid y m d
    · exact ⟨_, Day_is 60000 (by omega) y m d h⟩
    · exact ⟨_, Day_no 60000 (by omega) y m d h⟩
  have h2 : ∃ r, num_Civil.f 60000 n = some r ∧ colonnaderef01_Civil.f 60000 n = some r := by
    by_cases h : n < -719162 ∨ n > 2932896
    · exact ⟨_, Civil_no 60000 (by omega) n h⟩
    · obtain ⟨a, b, c, hv, hn⟩ := day_of n (by omega) (by omega)
      exact ⟨_, Civil_is 60000 (by omega) a b c n hv hn⟩
  obtain ⟨⟨r1, r2⟩, a, b⟩ := h1
  obtain ⟨⟨s1, s2, s3, s4⟩, c, e⟩ := h2
  unfold colonnadelaw01_NumDays.f
  simp only [a, b, c, e, begun01 60000 (by omega), Option.bind_some, if_true]
  simp
end Go.Proofs.YtmjpdhledcfjaaaDoor.Pure
