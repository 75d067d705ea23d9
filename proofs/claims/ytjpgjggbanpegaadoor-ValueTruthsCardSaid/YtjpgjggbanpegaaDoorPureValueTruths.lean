/- ValueTruths: what the printed law computes is true, for any numbers and any value. -/
import Derived.Test.YtjpgjggbanpegaaDoorPureBeg02
import Derived.Test.YtjpgjggbanpegaaDoorR14
import Derived.Test.YtjpgjggbanpegaaDoorR15
import Derived.Test.YtjpgjggbanpegaaDoorR16
import Derived.Test.YtjpgjggbanpegaaDoorR17
namespace Go.Proofs.YtjpgjggbanpegaaDoor.Pure
open Go.RowKit Go.Proofs.YtjpgjggbanpegaaDoor.R Go.Proofs.YtjpgjggbanpegaaDoorW.PrintWords Go.Proofs.YtjpgjggbanpegaaDoorW.PrintLast
theorem And_is (k : Nat) (hk : 1 ≤ k) (a b : Int) : value_And.f k a b = some (if a = 0 ∨ b = 0 then 0 else if a = 1 ∧ b = 1 then 1 else 2) ∧ colonnaderef02_And.f k a b = some (if a = 0 ∨ b = 0 then 0 else if a = 1 ∧ b = 1 then 1 else 2) := by
  obtain ⟨k, rfl⟩ : ∃ q, k = q + 1 := ⟨k - 1, by omega⟩
  unfold value_And.f colonnaderef02_And.f value_And.j0 colonnaderef02_And.j0
  by_cases h0 : a = 0 <;> by_cases h1 : b = 0 <;> by_cases h2 : a = 1 <;> by_cases h3 : b = 1 <;> simp_all
theorem Or_is (k : Nat) (hk : 1 ≤ k) (a b : Int) : value_Or.f k a b = some (if a = 1 ∨ b = 1 then 1 else if a = 0 ∧ b = 0 then 0 else 2) := by
  obtain ⟨k, rfl⟩ : ∃ q, k = q + 1 := ⟨k - 1, by omega⟩
  unfold value_Or.f value_Or.j0
  by_cases h0 : a = 0 <;> by_cases h1 : b = 0 <;> by_cases h2 : a = 1 <;> by_cases h3 : b = 1 <;> simp_all
theorem Or_ref (k : Nat) (hk : 1 ≤ k) (a b : Int) : colonnaderef02_Or.f k a b = some (if a = 1 ∨ b = 1 then 1 else if a = 0 ∧ b = 0 then 0 else 2) := by
  unfold colonnaderef02_Or.f colonnaderef02_Not.f
  by_cases h0 : a = 0 <;> by_cases h1 : b = 0 <;> by_cases h2 : a = 1 <;> by_cases h3 : b = 1 <;> simp_all [(And_is k hk _ _).2]
theorem ValueTruths (a0 a1 : Int) (s : S25) (_w0 : (Lit.int .i64 a0).wf = true) (_w1 : (Lit.int .i64 a1).wf = true) {G : Prop} (_w2 : G) : ∃ k, colonnadelaw02_ValueTruths.f k a0 a1 s.f0.f0 s.f0.f1 s.f1 s.f2 s.f3 = some true := by
  refine ⟨60, ?_⟩
  generalize s.f0.f0 = a2_0
  generalize s.f0.f1 = a2_1
  generalize s.f1 = a2_2
  generalize s.f2 = a2_3
  generalize s.f3 = a2_4
  have ht : ∃ x, value_Truth.f a2_0 a2_1 a2_2 a2_3 a2_4 = some x ∧ colonnaderef02_Truth.f a2_0 a2_1 a2_2 a2_3 a2_4 = some x := by
    unfold value_Truth.f colonnaderef02_Truth.f
    repeat' split
    all_goals exact ⟨_, rfl, rfl⟩
  obtain ⟨x, h1, h2⟩ := ht
  unfold colonnadelaw02_ValueTruths.f
  rw [h1, h2, begun02 60 (by omega), (And_is 60 (by omega) a0 a1).1, (And_is 60 (by omega) a0 a1).2, Or_is 60 (by omega), Or_ref 60 (by omega)]
  have h3 : value_Not.f a0 = colonnaderef02_Not.f a0 := rfl
  have h4 : ∃ y, colonnaderef02_Not.f a0 = some y := by
    unfold colonnaderef02_Not.f
    repeat' split
    all_goals exact ⟨_, rfl⟩
  obtain ⟨y, h4⟩ := h4
  rw [h3, h4]
  simp
end Go.Proofs.YtjpgjggbanpegaaDoor.Pure
