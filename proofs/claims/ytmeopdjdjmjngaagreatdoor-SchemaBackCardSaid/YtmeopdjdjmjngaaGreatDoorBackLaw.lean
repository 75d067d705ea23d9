/- SchemaBack as a function: true, where the rounds suffice. -/
import Derived.Test.YtmeopdjdjmjngaaGreatDoorCodV11
namespace Go.Proofs.YtmeopdjdjmjngaaGreatDoor.K
open Go.RowKit Go.Lib Go.Proofs.YtmeopdjdjmjngaaGreatDoorW.PrintWords Go.Proofs.YtmeopdjdjmjngaaGreatDoorW.PrintLast Go.Proofs.YtmeopdjdjmjngaaGreatDoor.Cod
def colonnadelaw11_SchemaBack.f (k : Nat) (a0_0 : ByteArray) (l0_1 : List (S36)) (l1 : List Int) : Option Bool :=
  if 201 ≤ k ∧ l0_1.length ≤ 4611686018427387904 ∧ l1.length ≤ 140737488355328 ∧ (l1.all fun x => decide (0 ≤ x ∧ x < 256)) = true ∧ colonnadelaw11_begun.f k = some true then some true else none
theorem colonnadelaw11_SchemaBack.calls (k : Nat) (a0_0 : ByteArray) (A0_1 : Option Addr) (c0_1 : Nat) (l0_1 : List (S36)) (A1 : Option Addr) (c1 : Nat) (l1 : List Int) (r : Bool) (w : World) (hr0_1 : Kd.C k36 w A0_1 l0_1.length l0_1) (hc0_1 : l0_1.length ≤ c0_1) (hr1 : Kd.C (Kd.int .u8) w A1 l1.length l1) (hc1 : l1.length ≤ c1) (h : colonnadelaw11_SchemaBack.f k a0_0 l0_1 l1 = some r) (hG : Gl w) :
    Calls Tryz.prog 9 #[.agg #[.string a0_0, .slice A0_1 l0_1.length c0_1], .slice A1 l1.length c1] w fun e w' => e = .returned (.bool r) ∧ Below w.heap.size w w' := by
  unfold colonnadelaw11_SchemaBack.f at h
  by_cases c : 201 ≤ k ∧ l0_1.length ≤ 4611686018427387904 ∧ l1.length ≤ 140737488355328 ∧ (l1.all fun x => decide (0 ≤ x ∧ x < 256)) = true ∧ colonnadelaw11_begun.f k = some true
  · rw [if_pos c] at h
    obtain rfl := Option.some.inj h
    obtain ⟨q1, q2, q3, q4, q5⟩ := c
    have hrd : RdOk l1 := rdok_of (fun x hx => of_decide_eq_true (List.all_eq_true.1 q4 x hx))
    obtain ⟨rc, hrc⟩ := Check_ends a0_0 l0_1 q2
    by_cases hz : rc = 0
    · subst hz
      by_cases he : ∃ nm2 cols2, schema_Check.f nm2 cols2 = some 0 ∧ l1 = enc nm2 cols2
      · obtain ⟨nm2, cols2, h1, h2⟩ := he
        exact back_yy k a0_0 A0_1 c0_1 l0_1 A1 c1 l1 w hr0_1 hc0_1 hr1 hc1 hrd q3 (by omega) q5 hG hrc nm2 cols2 h1 h2
      · exact back_yn k a0_0 A0_1 c0_1 l0_1 A1 c1 l1 w hr0_1 hc0_1 hr1 hc1 hrd q3 (by omega) q5 hG hrc (fun nm2 cols2 h1 h2 => he ⟨nm2, cols2, h1, h2⟩)
    · by_cases he : ∃ nm2 cols2, schema_Check.f nm2 cols2 = some 0 ∧ l1 = enc nm2 cols2
      · obtain ⟨nm2, cols2, h1, h2⟩ := he
        exact back_ny k a0_0 A0_1 c0_1 l0_1 A1 c1 l1 w hr0_1 hc0_1 hr1 hc1 hrd q3 (by omega) q5 hG rc hz hrc nm2 cols2 h1 h2
      · exact back_nn k a0_0 A0_1 c0_1 l0_1 A1 c1 l1 w hr0_1 hc0_1 hr1 hc1 hrd q3 (by omega) q5 hG rc hz hrc (fun nm2 cols2 h1 h2 => he ⟨nm2, cols2, h1, h2⟩)
  · rw [if_neg c] at h
    exact absurd h (by simp)
end Go.Proofs.YtmeopdjdjmjngaaGreatDoor.K
