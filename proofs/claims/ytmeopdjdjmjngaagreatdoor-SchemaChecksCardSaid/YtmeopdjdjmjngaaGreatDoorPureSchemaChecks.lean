/- SchemaChecks: what the printed law computes is true. -/
import Derived.Test.YtmeopdjdjmjngaaGreatDoorPureCheck11
import Derived.Test.YtmeopdjdjmjngaaGreatDoorPureBeg11
import Derived.Test.YtmeopdjdjmjngaaGreatDoorH90
import Derived.Test.YtmeopdjdjmjngaaGreatDoorH8
namespace Go.Proofs.YtmeopdjdjmjngaaGreatDoor.Pure
open Go.RowKit Go.Proofs.YtmeopdjdjmjngaaGreatDoor.H Go.Proofs.YtmeopdjdjmjngaaGreatDoorW.PrintWords Go.Proofs.YtmeopdjdjmjngaaGreatDoorW.PrintLast Go.Proofs.YtmeopdjdjmjngaaGreatDoor.Str
theorem SchemaChecks (s : S24) (s1 : S24) (a2 : ByteArray) (w0 : s.f0.size ≤ 140737488351232 ∧ s.f1.length * 40 ≤ 140737488351232 ∧ ∀ x ∈ s.f1, x.f0.size ≤ 140737488351232 ∧ ((Lit.int .i64 x.f1.f0).wf = true ∧ (Lit.int .i64 x.f1.f1).wf = true) ∧ True)
    (_w1 : s1.f0.size ≤ 140737488351232 ∧ s1.f1.length * 40 ≤ 140737488351232 ∧ ∀ x ∈ s1.f1, x.f0.size ≤ 140737488351232 ∧ ((Lit.int .i64 x.f1.f0).wf = true ∧ (Lit.int .i64 x.f1.f1).wf = true) ∧ True) (w2 : a2.size ≤ 140737488351232) : ∃ k, colonnadelaw11_SchemaChecks.f k s.f0 s.f1 s1.f0 s1.f1 a2 = some true := by
  obtain ⟨h0, h1, h2⟩ := w0
  refine ⟨140737488351232 + 3 * s.f1.length + 1000, ?_⟩
  generalize hk : 140737488351232 + 3 * s.f1.length + 1000 = k
  have hm : s.f1.length ≤ 1000000000000000000 := by omega
  obtain ⟨r, c1, c2⟩ := Check_both s.f1 s.f0 140737488351232 (by decide) hm h0 (fun x hx => (h2 x hx).1) k (by omega)
  obtain ⟨t1, t2⟩ := Types_both s.f1 s.f0 (by omega) k (by omega)
  obtain ⟨b, b1, b2, _⟩ := Same_both s.f1 s1.f1 s.f0 s1.f0 hm k (by omega)
  obtain ⟨b', b1', _, b3'⟩ := Same_both s.f1 s.f1 s.f0 s.f0 hm k (by omega)
  have hf : ∃ q, schema_Find.f s.f0 s.f1 a2 = some q := by unfold schema_Find.f; rw [if_pos (by omega)]; exact ⟨_, rfl⟩
  obtain ⟨q, hq⟩ := hf
  unfold colonnadelaw11_SchemaChecks.f
  rw [Find_both s.f1 s.f0 a2 hm k (by omega), hq, Option.bind_some, Option.bind_some, begun11 k (by omega), Option.bind_some, if_pos rfl, Name_both a2 (by omega) k (by omega), schema_Check.nm_is, Option.bind_some, Option.bind_some, if_pos rfl, c1, c2, Option.bind_some, Option.bind_some, if_pos rfl, if_pos rfl, if_pos (by simp), t1, t2, Option.bind_some, Option.bind_some, tyeq _ (by rw [List.length_map]; exact hm) k (by rw [List.length_map]; omega), Option.bind_some, if_pos rfl, b1, b2, Option.bind_some, Option.bind_some, if_pos (by simp), b1', Option.bind_some, b3' rfl rfl]
end Go.Proofs.YtmeopdjdjmjngaaGreatDoor.Pure
