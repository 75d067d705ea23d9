/- SchemaAgain: what the printed law computes is true, for all definitions and rows. -/
import Derived.Test.YtmeopdjdjmjngaaGreatDoorPureAgain
import Derived.Test.YtmeopdjdjmjngaaGreatDoorPureBeg11
import Derived.Test.YtmeopdjdjmjngaaGreatDoorG90
import Derived.Test.YtmeopdjdjmjngaaGreatDoorAgainLaw
import Derived.Test.YtmeopdjdjmjngaaGreatDoorG3
import Derived.Test.YtmeopdjdjmjngaaGreatDoorG5
import Derived.Test.YtmeopdjdjmjngaaGreatDoorG6
namespace Go.Proofs.YtmeopdjdjmjngaaGreatDoor.Pure
open Go.RowKit Go.Proofs.YtmeopdjdjmjngaaGreatDoor.G Go.Proofs.YtmeopdjdjmjngaaGreatDoorW.PrintWords Go.Proofs.YtmeopdjdjmjngaaGreatDoorW.PrintLast Go.Proofs.YtmeopdjdjmjngaaGreatDoor.Str
theorem lp_ends : ∀ (l : List Col) (seen : List (List UInt8)), ∃ r, schema_Check.lp l seen = some r := by
  intro l
  induction l with
  | nil => intro seen; exact ⟨_, rfl⟩
  | cons c r ih =>
    intro seen
    rw [schema_Check.lp]
    split
    · exact ⟨_, rfl⟩
    · obtain ⟨x, x1, _⟩ := chk_same c.f1.f0 c.f1.f1
      rw [x1, Option.bind_some]
      split
      · exact ih _
      · exact ⟨_, rfl⟩
theorem Check_ends (nm : ByteArray) (l : List Col) (hm : l.length ≤ 4611686018427387904) : ∃ r, schema_Check.f nm l = some r := by
  unfold schema_Check.f
  rw [if_pos hm]
  split
  · split
    · exact ⟨_, rfl⟩
    · obtain ⟨x, hx⟩ := lp_ends l []
      rw [hx]; exact ⟨_, rfl⟩
  · exact ⟨_, rfl⟩
theorem SchemaAgain (s : S24) (l : List Val) (_w0 : s.f0.size ≤ 140737488351232 ∧ s.f1.length * 40 ≤ 140737488351232 ∧ ∀ x ∈ s.f1, x.f0.size ≤ 140737488351232 ∧ ((Lit.int .i64 x.f1.f0).wf = true ∧ (Lit.int .i64 x.f1.f1).wf = true) ∧ True)
    (w1 : l.length * 48 ≤ 140737488351232 ∧ ∀ x ∈ l, ((Lit.int .i64 x.f0.f0).wf = true ∧ (Lit.int .i64 x.f0.f1).wf = true) ∧ True ∧ (Lit.int .i64 x.f2).wf = true ∧ x.f3.size ≤ 140737488351232) : ∃ k, colonnadelaw11_SchemaAgain.f k s.f0 s.f1 l = some true := by
  obtain ⟨h1, h2⟩ := w1
  have hm : l.length ≤ 2932031007317 := by omega
  refine ⟨3 * l.length + 1000, ?_⟩
  generalize hk : 3 * l.length + 1000 = k
  obtain ⟨r, e1, e2, e3⟩ := Fit_first l s.f1 s.f0 hm (fun v hv => bounds_i64 (h2 v hv).2.2.1) k (by omega)
  unfold colonnadelaw11_SchemaAgain.f
  rw [e1, Option.bind_some, if_pos ⟨begun11 _ (by omega), by omega⟩]
  by_cases z : r.2 = 0
  · obtain ⟨p1, p2, p3⟩ := e3 z
    obtain ⟨c, hc⟩ := Check_ends s.f0 s.f1 (by omega)
    have hall : ((List.range l.length).all fun (j : Nat) => rowOk (rd_T41 r.1 (j : Int)) (rd_T41 l (j : Int)) (rd_T36 s.f1 (j : Int))) = true := by
      refine List.all_eq_true.2 (fun j hj => ?_)
      have hj := List.mem_range.1 hj
      obtain ⟨c, x, f1, f2, ⟨o1, o2, _⟩, o4⟩ := p3 j r.1[j] (List.getElem?_eq_getElem (by omega))
      have g1 : s.f1[j] = c := Option.some.inj ((List.getElem?_eq_getElem (by omega)).symm.trans f1)
      have g2 : l[j] = x := Option.some.inj ((List.getElem?_eq_getElem hj).symm.trans f2)
      rw [rdV r.1 j (by omega), rdV l j hj, rdC s.f1 j (by omega), g1, g2]
      unfold rowOk
      rw [o1, o4]
      cases hx : x.f1 with
      | false => simp
      | true =>
        rw [hx] at o4
        rw [(o2 o4).1]
        simp
    rw [if_pos z, if_pos ⟨p1, p2, hall⟩, hc, Option.bind_some]
    unfold api_Value.f
    rw [if_pos (by omega), Option.bind_some, Fit_again l r.1 s.f1 s.f0 hm p1 p2 p3 k (by omega), Option.bind_some, if_pos ⟨rfl, Same_self r.1 (by omega) k (by omega)⟩]
  · rw [if_neg z, if_pos (by rw [e2 z]; rfl)]
end Go.Proofs.YtmeopdjdjmjngaaGreatDoor.Pure
