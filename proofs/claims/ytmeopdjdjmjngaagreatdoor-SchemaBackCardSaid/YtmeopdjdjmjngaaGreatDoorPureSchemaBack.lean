/- SchemaBack: what the law comes to is true, for all definitions and all bytes. -/
import Derived.Test.YtmeopdjdjmjngaaGreatDoorBackLaw
import Derived.Test.YtmeopdjdjmjngaaGreatDoorPureBeg11
import Derived.Test.YtmeopdjdjmjngaaGreatDoorK90
namespace Go.Proofs.YtmeopdjdjmjngaaGreatDoor.Pure
open Go.RowKit Go.Proofs.YtmeopdjdjmjngaaGreatDoor.K Go.Proofs.YtmeopdjdjmjngaaGreatDoorW.PrintWords Go.Proofs.YtmeopdjdjmjngaaGreatDoorW.PrintLast
theorem SchemaBack (s : S24) (l : List Int) (w0 : s.f0.size ≤ 140737488351232 ∧ s.f1.length * 40 ≤ 140737488351232 ∧ ∀ x ∈ s.f1, x.f0.size ≤ 140737488351232 ∧ ((Lit.int .i64 x.f1.f0).wf = true ∧ (Lit.int .i64 x.f1.f1).wf = true) ∧ True)
    (w1 : l.length * 1 ≤ 140737488351232 ∧ ∀ x ∈ l, (Lit.int .u8 x).wf = true) : ∃ k, colonnadelaw11_SchemaBack.f k s.f0 s.f1 l = some true := by
  refine ⟨1000, ?_⟩
  unfold colonnadelaw11_SchemaBack.f
  rw [if_pos]
  have h1 := w0.2.1
  have h2 := w1.1
  refine ⟨by decide, by omega, by omega, List.all_eq_true.2 (fun x hx => decide_eq_true ?_), begun11 _ (by decide)⟩
  have := w1.2 x hx
  simp [Lit.wf, IntKind.min, IntKind.max, IntKind.signed, IntKind.bits] at this
  omega
end Go.Proofs.YtmeopdjdjmjngaaGreatDoor.Pure
