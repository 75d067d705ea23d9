/- ValueCasts: what the printed law computes is true, for all values and types, their texts up to 64 MB. -/
import Derived.Test.YtjpgjggbanpegaaGreatDoorPureCast
import Derived.Test.YtjpgjggbanpegaaGreatDoorPureBeg02
import Derived.Test.YtjpgjggbanpegaaGreatDoorE90
import Derived.Test.YtjpgjggbanpegaaGreatDoorE12
namespace Go.Proofs.YtjpgjggbanpegaaGreatDoor.Pure
open Go.RowKit Go.Proofs.YtjpgjggbanpegaaGreatDoor.E Go.Proofs.YtjpgjggbanpegaaGreatDoorW.PrintWords Go.Proofs.YtjpgjggbanpegaaGreatDoorW.PrintLast Go.Proofs.YtjpgjggbanpegaaGreatDoor.Str Go.Proofs.YtjpgjggbanpegaaGreatDoor.Cal
theorem ValueCasts (s : S25) (t : S23) (w0 : ((Lit.int .i64 s.f0.f0).wf = true ∧ (Lit.int .i64 s.f0.f1).wf = true) ∧ True ∧ (Lit.int .i64 s.f2).wf = true ∧ s.f3.size ≤ 67108864) (_w1 : (Lit.int .i64 t.f0).wf = true ∧ (Lit.int .i64 t.f1).wf = true) : ∃ k, colonnadelaw02_ValueCasts.f k s.f0.f0 s.f0.f1 s.f1 s.f2 s.f3 t.f0 t.f1 = some true := by
  have h3 : In64 s.f2 := bounds_i64 w0.2.2.1
  have h4 := w0.2.2.2
  refine ⟨1000000004, ?_⟩
  have e4 := B_of s.f3
  have hs : s.f3.data.toList.length = s.f3.size := Array.length_toList
  unfold colonnadelaw02_ValueCasts.f
  obtain ⟨r, e1, e2⟩ := Cast_both 1000000000 (Nat.le_refl _) s.f0.f0 s.f0.f1 s.f2 t.f0 t.f1 s.f1 s.f3.data.toList h3 (by omega)
  rw [← e4] at e1 e2
  rw [show (1000000004 : Nat) = 1000000000 + 4 from rfl, e1, e2, Option.bind_some, Option.bind_some, begun02 _ (by omega), Option.bind_some, if_pos rfl]
  rw [if_pos (by simp)]
  simp
end Go.Proofs.YtjpgjggbanpegaaGreatDoor.Pure
