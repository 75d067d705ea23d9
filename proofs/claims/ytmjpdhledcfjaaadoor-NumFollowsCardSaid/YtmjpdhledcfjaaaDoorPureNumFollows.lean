/- NumFollows: what the printed law computes is true, for every whole number of 64 bits. -/
import Derived.Test.YtmjpdhledcfjaaaDoorPureDay
import Derived.Test.YtmjpdhledcfjaaaDoorPureBeg01
import Derived.Test.YtmjpdhledcfjaaaDoorR21
namespace Go.Proofs.YtmjpdhledcfjaaaDoor.Pure
open Go.RowKit Go.Proofs.YtmjpdhledcfjaaaDoor.R Go.Proofs.YtmjpdhledcfjaaaDoorW.PrintWords Go.Proofs.YtmjpdhledcfjaaaDoorW.PrintLast Go.Proofs.YtmjpdhledcfjaaaDoor.Cal
theorem NumFollows (n : Int) (_wn : (Lit.int .i64 n).wf = true) : ∃ k, colonnadelaw01_NumFollows.f k n = some true := by
  refine ⟨60002, ?_⟩
  unfold colonnadelaw01_NumFollows.f
  rw [begun01 60002 (by omega)]
  by_cases h : n < -719162 ∨ n > 2932896
  · rw [(Civil_no 60002 (by omega) n h).1]
    simp only [Option.bind_some, if_true]
    rw [if_neg (by decide)]
    simp only [colonnadelaw01_NumFollows.j0, if_true]
    rw [begun01 60001 (by omega)]
    simp
  · obtain ⟨Y, M, D, hv, hn⟩ := day_of n (by omega) (by omega)
    rw [(Civil_is 60002 (by omega) Y M D n hv hn).1]
    simp only [Option.bind_some, if_true]
    by_cases hm : n ≥ 2932896
    · simp only [colonnadelaw01_NumFollows.j0]
      rw [if_pos (by simpa using hm), begun01 60001 (by omega)]
      simp only [Option.bind_some, if_true]
      congr 1
      have : n = 2932896 := by omega
      simp [this]
    · simp only [colonnadelaw01_NumFollows.j0]
      rw [if_neg (by simpa using hm)]
      have hv0 := hv
      obtain ⟨h1, h2, h3, h4, h5, h6⟩ := hv
      rw [wr (x := n + 1) (by omega) (by omega), (Day_is 60001 (by omega) Y M D hv0).1, hn]
      by_cases hd : D < mlen Y M
      · have hv' : valid Y M (D + 1) := ⟨h1, h2, h3, h4, by omega, by omega⟩
        rw [(Civil_is 60001 (by omega) Y M (D + 1) (n + 1) hv' (by unfold num at hn ⊢; omega)).1]
        have hb := mlen_bd Y M
        simp only [Option.bind_some]
        rw [wr (x := D + 1) (by omega) (by omega)]
        simp
      · have e : D = mlen Y M := by omega
        have hs := cum_succ Y M h3 h4
        by_cases hM : M < 12
        · have hv' : valid Y (M + 1) 1 := ⟨h1, h2, by omega, by omega, by omega, by have := mlen_bd Y (M + 1); omega⟩
          rw [(Civil_is 60001 (by omega) Y (M + 1) 1 (n + 1) hv' (by unfold num at hn ⊢; omega)).1]
          simp only [Option.bind_some]
          rw [wr (x := M + 1) (by omega) (by omega)]
          simp [show ¬ (M + 1 = M) from by omega]
        · obtain rfl : M = 12 := by omega
          have c13 := cum_13 Y
          have hy := dby_succ Y
          have hd31 : mlen Y 12 = 31 := by simp [mlen]
          have hY : Y + 1 ≤ 9999 := by
            rcases Int.lt_or_le 9998 Y with g | g
            · have : Y = 9999 := by omega
              subst this
              have := dby_max
              unfold num at hn
              simp at hy hs c13
              omega
            · omega
          have e1 := cum_one (Y + 1)
          have hv' : valid (Y + 1) 1 1 := ⟨by omega, by omega, by omega, by omega, by omega, by have := mlen_bd (Y + 1) 1; omega⟩
          rw [(Civil_is 60001 (by omega) (Y + 1) 1 1 (n + 1) hv' (by unfold num at hn ⊢; simp at hs; omega)).1]
          simp only [Option.bind_some]
          rw [wr (x := Y + 1) (by omega) (by omega)]
          rw [hd31] at e
          simp [e, show ¬ (Y + 1 = Y) from by omega]
end Go.Proofs.YtmjpdhledcfjaaaDoor.Pure
