/- SchemaBytes as a function: true, where the rounds suffice. -/
import Derived.Test.YtmeopdjdjmjngaaGreatDoorRefL11
namespace Go.Proofs.YtmeopdjdjmjngaaGreatDoor.I
open Go.RowKit Go.Lib Go.Proofs.YtmeopdjdjmjngaaGreatDoorW.PrintWords Go.Proofs.YtmeopdjdjmjngaaGreatDoorW.PrintLast Go.Proofs.YtmeopdjdjmjngaaGreatDoor.Cod
def colonnadelaw11_SchemaBytes.f (k : Nat) (a0_0 : ByteArray) (l0_1 : List (S36)) (l1 : List Int) : Option Bool :=
  if 201 ≤ k ∧ a0_0.size ≤ 140737488355328 ∧ (l0_1.all fun x => decide (x.f0.size ≤ 140737488355328)) = true ∧ l0_1.length ≤ 4000000000000 ∧ l1.length ≤ 140737488355327 ∧ (l1.all fun x => decide (0 ≤ x ∧ x < 256)) = true ∧ colonnadelaw11_begun.f k = some true then some true else none
theorem colonnadelaw11_SchemaBytes.calls (k : Nat) (a0_0 : ByteArray) (A0_1 : Option Addr) (c0_1 : Nat) (l0_1 : List (S36)) (A1 : Option Addr) (c1 : Nat) (l1 : List Int) (r : Bool) (w : World) (hr0_1 : Kd.C k36 w A0_1 l0_1.length l0_1) (hc0_1 : l0_1.length ≤ c0_1) (hr1 : Kd.C (Kd.int .u8) w A1 l1.length l1) (hc1 : l1.length ≤ c1) (h : colonnadelaw11_SchemaBytes.f k a0_0 l0_1 l1 = some r) (hG : Gl w) :
    Calls Tryz.prog 8 #[.agg #[.string a0_0, .slice A0_1 l0_1.length c0_1], .slice A1 l1.length c1] w fun e w' => e = .returned (.bool r) ∧ Below w.heap.size w w' := by
  unfold colonnadelaw11_SchemaBytes.f at h
  by_cases c : 201 ≤ k ∧ a0_0.size ≤ 140737488355328 ∧ (l0_1.all fun x => decide (x.f0.size ≤ 140737488355328)) = true ∧ l0_1.length ≤ 4000000000000 ∧ l1.length ≤ 140737488355327 ∧ (l1.all fun x => decide (0 ≤ x ∧ x < 256)) = true ∧ colonnadelaw11_begun.f k = some true
  · rw [if_pos c] at h
    obtain rfl := Option.some.inj h
    obtain ⟨q1, q2, q3, q4, q5, q6, q7⟩ := c
    have hrd : RdOk l1 := rdok_of (fun x hx => of_decide_eq_true (List.all_eq_true.1 q6 x hx))
    obtain ⟨rc, hrc, hrr⟩ := Pure.Check_both l0_1 a0_0 140737488355328 (by omega) (by omega) q2 (fun x hx => of_decide_eq_true (List.all_eq_true.1 q3 x hx)) 1000000000000000 (by omega)
    have hk : 200 < k := by omega
    by_cases hz : rc = 0
    · subst hz
      by_cases he : ∃ nm2 cols2, schema_Check.f nm2 cols2 = some 0 ∧ l1 = enc nm2 cols2
      · obtain ⟨nm2, cols2, h1, h2⟩ := he
        have hd := Check_ok nm2 cols2 h1
        obtain ⟨r2, g1, g2⟩ := chk_any nm2 cols2 (by have := hd.2.2.1; omega) (by have := hd.1; omega) (fun x hx => by have := (hd.2.2.2 x hx).1; omega)
        rw [h1] at g1
        obtain rfl := Option.some.inj g1
        exact bytes_yy k _ a0_0 A0_1 c0_1 l0_1 A1 c1 l1 w hr0_1 hc0_1 hr1 hc1 hrd q5 hk q7 hG hrc hrr nm2 cols2 h1 _ g2 h2
      · exact bytes_yn k _ a0_0 A0_1 c0_1 l0_1 A1 c1 l1 w hr0_1 hc0_1 hr1 hc1 hrd q5 hk q7 hG hrc hrr (fun nm2 cols2 h1 h2 => he ⟨nm2, cols2, h1, h2⟩)
    · by_cases he : ∃ nm2 cols2, schema_Check.f nm2 cols2 = some 0 ∧ l1 = enc nm2 cols2
      · obtain ⟨nm2, cols2, h1, h2⟩ := he
        have hd := Check_ok nm2 cols2 h1
        obtain ⟨r2, g1, g2⟩ := chk_any nm2 cols2 (by have := hd.2.2.1; omega) (by have := hd.1; omega) (fun x hx => by have := (hd.2.2.2 x hx).1; omega)
        rw [h1] at g1
        obtain rfl := Option.some.inj g1
        exact bytes_ny k _ a0_0 A0_1 c0_1 l0_1 A1 c1 l1 w hr0_1 hc0_1 hr1 hc1 hrd q5 hk q7 hG rc hz hrc hrr nm2 cols2 h1 _ g2 h2
      · exact bytes_nn k _ a0_0 A0_1 c0_1 l0_1 A1 c1 l1 w hr0_1 hc0_1 hr1 hc1 hrd q5 hk q7 hG rc hz hrc hrr (fun nm2 cols2 h1 h2 => he ⟨nm2, cols2, h1, h2⟩)
  · rw [if_neg c] at h
    exact absurd h (by simp)
end Go.Proofs.YtmeopdjdjmjngaaGreatDoor.I
