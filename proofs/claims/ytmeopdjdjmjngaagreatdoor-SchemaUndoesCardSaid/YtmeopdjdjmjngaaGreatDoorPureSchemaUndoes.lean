/- SchemaUndoes: what the law comes to is true, for all lists of definitions and all definitions. -/
import Derived.Test.YtmeopdjdjmjngaaGreatDoorUndoesLaw
import Derived.Test.YtmeopdjdjmjngaaGreatDoorPureBeg11
namespace Go.Proofs.YtmeopdjdjmjngaaGreatDoor.Pure
open Go.RowKit Go.Proofs.YtmeopdjdjmjngaaGreatDoor.J Go.Proofs.YtmeopdjdjmjngaaGreatDoorW.PrintWords Go.Proofs.YtmeopdjdjmjngaaGreatDoorW.PrintLast
theorem SchemaUndoes (l : List S24) (s : S24) (w0 : l.length * 40 ≤ 140737488351232 ∧ ∀ x ∈ l, x.f0.size ≤ 140737488351232 ∧ (x.f1.length * 40 ≤ 140737488351232 ∧ ∀ y ∈ x.f1, (y.f0.size ≤ 140737488351232 ∧ ((Lit.int .i64 y.f1.f0).wf = true ∧ (Lit.int .i64 y.f1.f1).wf = true) ∧ True)))
    (w1 : s.f0.size ≤ 140737488351232 ∧ s.f1.length * 40 ≤ 140737488351232 ∧ ∀ x ∈ s.f1, x.f0.size ≤ 140737488351232 ∧ ((Lit.int .i64 x.f1.f0).wf = true ∧ (Lit.int .i64 x.f1.f1).wf = true) ∧ True) : ∃ k, colonnadelaw11_SchemaUndoes.f k l s.f0 s.f1 = some true := by
  refine ⟨140737488351232, ?_⟩
  unfold colonnadelaw11_SchemaUndoes.f
  rw [if_pos]
  refine ⟨by decide, by decide, List.all_eq_true.2 (fun x hx => decide_eq_true ?_), ?_, begun11 _ (by decide)⟩
  · have := (w0.2 x hx).2.1
    omega
  · have := w1.2.1
    omega
end Go.Proofs.YtmeopdjdjmjngaaGreatDoor.Pure
