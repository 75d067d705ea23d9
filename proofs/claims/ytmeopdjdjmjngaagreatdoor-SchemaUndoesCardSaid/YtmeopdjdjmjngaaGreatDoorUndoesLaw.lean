/- SchemaUndoes as a function: true, where the rounds suffice. -/
import Derived.Test.YtmeopdjdjmjngaaGreatDoorDirLaw11
import Derived.Test.YtmeopdjdjmjngaaGreatDoorJ5
namespace Go.Proofs.YtmeopdjdjmjngaaGreatDoor.J
open Go.RowKit Go.Lib Go.Proofs.YtmeopdjdjmjngaaGreatDoorW.PrintWords Go.Proofs.YtmeopdjdjmjngaaGreatDoorW.PrintLast
def colonnadelaw11_SchemaUndoes.f (k : Nat) (l0 : List (S24)) (_a1_0 : ByteArray) (l1_1 : List (S36)) : Option Bool :=
  if 201 ≤ k ∧ k ≤ 1000000000000000000 ∧ (l0.all fun x => decide (x.f1.length + 201 ≤ k)) = true ∧ l1_1.length + 201 ≤ k ∧ colonnadelaw11_begun.f k = some true then some true else none
theorem colonnadelaw11_SchemaUndoes.calls (k : Nat) (A0 : Option Addr) (c0 : Nat) (l0 : List (S24)) (a1_0 : ByteArray) (A1_1 : Option Addr) (c1_1 : Nat) (l1_1 : List (S36)) (r : Bool) (w : World) (hr0 : Kd.C k24 w A0 l0.length l0) (hc0 : l0.length ≤ c0) (hr1_1 : Kd.C k36 w A1_1 l1_1.length l1_1) (hc1_1 : l1_1.length ≤ c1_1) (h : colonnadelaw11_SchemaUndoes.f k l0 a1_0 l1_1 = some r) (hG : Gl w) :
    Calls Tryz.prog 7 #[.slice A0 l0.length c0, .agg #[.string a1_0, .slice A1_1 l1_1.length c1_1]] w fun e w' => e = .returned (.bool r) ∧ Below w.heap.size w w' := by
  unfold colonnadelaw11_SchemaUndoes.f at h
  by_cases c : 201 ≤ k ∧ k ≤ 1000000000000000000 ∧ (l0.all fun x => decide (x.f1.length + 201 ≤ k)) = true ∧ l1_1.length + 201 ≤ k ∧ colonnadelaw11_begun.f k = some true
  · rw [if_pos c] at h
    obtain rfl := Option.some.inj h
    obtain ⟨c1, c2, c3, c4, c5⟩ := c
    refine undoes_walk k (k - 201) A0 c0 l0 a1_0 A1_1 c1_1 l1_1 w hr0 hc0 hc1_1 hr1_1 (by omega) (by omega) (fun x hx => ?_) (by omega) c5 hG
    have := of_decide_eq_true (List.all_eq_true.1 c3 x hx)
    omega
  · rw [if_neg c] at h
    exact absurd h (by simp)
end Go.Proofs.YtmeopdjdjmjngaaGreatDoor.J
