/- SchemaBytes: what the law comes to is true, for all definitions and all bytes. -/
import Derived.Test.YtmeopdjdjmjngaaGreatDoorBytesLaw
import Derived.Test.YtmeopdjdjmjngaaGreatDoorPureBeg11
import Derived.Test.YtmeopdjdjmjngaaGreatDoorI90
namespace Go.Proofs.YtmeopdjdjmjngaaGreatDoor.Pure
open Go.RowKit Go.Proofs.YtmeopdjdjmjngaaGreatDoor.I Go.Proofs.YtmeopdjdjmjngaaGreatDoorW.PrintWords Go.Proofs.YtmeopdjdjmjngaaGreatDoorW.PrintLast
theorem SchemaBytes (s : S24) (l : List Int) (w0 : s.f0.size ≤ 140737488351232 ∧ s.f1.length * 40 ≤ 140737488351232 ∧ ∀ x ∈ s.f1, x.f0.size ≤ 140737488351232 ∧ ((Lit.int .i64 x.f1.f0).wf = true ∧ (Lit.int .i64 x.f1.f1).wf = true) ∧ True)
    (w1 : l.length * 1 ≤ 140737488351232 ∧ ∀ x ∈ l, (Lit.int .u8 x).wf = true) : ∃ k, colonnadelaw11_SchemaBytes.f k s.f0 s.f1 l = some true := by
  refine ⟨1000, ?_⟩
  unfold colonnadelaw11_SchemaBytes.f
  rw [if_pos]
  have h1 := w0.2.1
  have h2 := w1.1
  refine ⟨by decide, by have := w0.1; omega, List.all_eq_true.2 (fun x hx => decide_eq_true (by have := (w0.2.2 x hx).1; omega)), by omega, by omega, List.all_eq_true.2 (fun x hx => decide_eq_true ?_), begun11 _ (by decide)⟩
  have := w1.2 x hx
  simp [Lit.wf, IntKind.min, IntKind.max, IntKind.signed, IntKind.bits] at this
  omega
end Go.Proofs.YtmeopdjdjmjngaaGreatDoor.Pure
