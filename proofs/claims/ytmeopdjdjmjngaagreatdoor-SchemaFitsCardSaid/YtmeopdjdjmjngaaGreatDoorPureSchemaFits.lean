/- SchemaFits: what the printed law computes is true, for all definitions and rows. -/
import Derived.Test.YtmeopdjdjmjngaaGreatDoorPureFit
import Derived.Test.YtmeopdjdjmjngaaGreatDoorPureBeg11
import Derived.Test.YtmeopdjdjmjngaaGreatDoorF90
import Derived.Test.YtmeopdjdjmjngaaGreatDoorF8
namespace Go.Proofs.YtmeopdjdjmjngaaGreatDoor.Pure
open Go.RowKit Go.Proofs.YtmeopdjdjmjngaaGreatDoor.F Go.Proofs.YtmeopdjdjmjngaaGreatDoorW.PrintWords Go.Proofs.YtmeopdjdjmjngaaGreatDoorW.PrintLast Go.Proofs.YtmeopdjdjmjngaaGreatDoor.Str
theorem fit_len (l : List Val) (cols : List Col) (nm : ByteArray) : ∀ (k i : Nat) (acc : List Val) (r : List Val × Int), colonnaderef11_Fit.l0 k l acc (i : Int) nm cols = some r → acc.length ≤ i → i ≤ l.length → l.length ≤ 2932031007317 → r.1.length ≤ l.length := by
  intro k
  induction k with
  | zero => intro i acc r h; simp [colonnaderef11_Fit.l0] at h
  | succ k ih =>
    intro i acc r h ha hi hm
    rw [colonnaderef11_Fit.l0] at h
    by_cases c1 : (i : Int) < (l.length : Int)
    · rw [if_pos c1, if_pos (by omega)] at h
      have hw := w64v i (by omega)
      rw [hw] at h
      by_cases c2 : (i : Int) < (cols.length : Int)
      · rw [if_pos c2] at h
        have go : ∀ x : Val, colonnaderef11_Fit.l0 k l (acc ++ [x]) ((i + 1 : Nat) : Int) nm cols = some r → r.1.length ≤ l.length := fun x hx => ih (i + 1) _ r hx (by simp; omega) (by omega) hm
        split at h
        · split at h
          · obtain rfl := Option.some.inj h; simp
          · obtain ⟨b, _, h⟩ := Option.bind_eq_some_iff.mp h
            split at h
            · exact go _ h
            · cases h
        · obtain ⟨b, _, h⟩ := Option.bind_eq_some_iff.mp h
          split at h
          · obtain ⟨q, _, h⟩ := Option.bind_eq_some_iff.mp h
            split at h
            · split at h
              · exact go _ h
              · cases h
            · obtain rfl := Option.some.inj h; simp
          · obtain rfl := Option.some.inj h; simp
      · rw [if_neg c2] at h; cases h
    · rw [if_neg c1] at h
      obtain rfl := Option.some.inj h
      show acc.length ≤ l.length
      omega
theorem SchemaFits (s : S24) (l : List Val) (_w0 : s.f0.size ≤ 140737488351232 ∧ s.f1.length * 40 ≤ 140737488351232 ∧ ∀ x ∈ s.f1, x.f0.size ≤ 140737488351232 ∧ ((Lit.int .i64 x.f1.f0).wf = true ∧ (Lit.int .i64 x.f1.f1).wf = true) ∧ True)
    (w1 : l.length * 48 ≤ 140737488351232 ∧ ∀ x ∈ l, ((Lit.int .i64 x.f0.f0).wf = true ∧ (Lit.int .i64 x.f0.f1).wf = true) ∧ True ∧ (Lit.int .i64 x.f2).wf = true ∧ x.f3.size ≤ 140737488351232) : ∃ k, colonnadelaw11_SchemaFits.f k s.f0 s.f1 l = some true := by
  obtain ⟨h1, h2⟩ := w1
  have hm : l.length ≤ 2932031007317 := by omega
  refine ⟨2 * l.length + 200, ?_⟩
  obtain ⟨r, e1, e2⟩ := Fit_both l s.f1 s.f0 hm (fun v hv => bounds_i64 (h2 v hv).2.2.1) (2 * l.length + 200) (by omega)
  have hlen : r.1.length ≤ l.length := by
    unfold colonnaderef11_Fit.f at e2
    by_cases h : (l.length : Int) = (s.f1.length : Int)
    · rw [if_pos h] at e2
      exact fit_len l s.f1 s.f0 _ 0 [] r e2 (by simp) (by omega) hm
    · rw [if_neg h] at e2
      obtain rfl := Option.some.inj e2
      simp
  unfold colonnadelaw11_SchemaFits.f
  rw [e1, e2, Option.bind_some, Option.bind_some, begun11 _ (by omega), Option.bind_some, if_pos rfl, Same_self r.1 (by omega) _ (by omega), Option.bind_some, if_pos rfl]
  simp
end Go.Proofs.YtmeopdjdjmjngaaGreatDoor.Pure
