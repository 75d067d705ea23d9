/- NumProducts: what the printed law computes is true, for every two whole numbers of 64 bits. -/
import Derived.Test.YtmjpdhledcfjaaaDoorPureMul
import Derived.Test.YtmjpdhledcfjaaaDoorPureBeg01
import Derived.Test.YtmjpdhledcfjaaaDoorR39
import Derived.Test.YtmjpdhledcfjaaaDoorR40
import Derived.Test.YtmjpdhledcfjaaaDoorR41
import Derived.Test.YtmjpdhledcfjaaaDoorR42
import Derived.Test.YtmjpdhledcfjaaaDoorR43
import Derived.Test.YtmjpdhledcfjaaaDoorR44
namespace Go.Proofs.YtmjpdhledcfjaaaDoor.Pure
open Go.RowKit Go.Proofs.YtmjpdhledcfjaaaDoor.R Go.Proofs.YtmjpdhledcfjaaaDoorW.PrintWords Go.Proofs.YtmjpdhledcfjaaaDoorW.PrintLast Go.Proofs.YtmjpdhledcfjaaaDoor.Wide

theorem tmod_pos' (a b : Int) (h : 0 ≤ a) : a.tmod b = a % b := Int.tmod_eq_emod_of_nonneg h
theorem tdiv_pos' (a b : Int) (h : 0 ≤ a) : a.tdiv b = a / b := Int.tdiv_eq_ediv_of_nonneg h
theorem Int.emod_le_of_nonneg' (a b : Int) (h : 0 ≤ a) : a % b ≤ a := by
  have e := Int.emod_def a b
  rcases Int.lt_or_le b 0 with g | g
  · have h1 : a / b ≤ 0 := Int.ediv_nonpos_of_nonneg_of_nonpos h (by omega)
    have := Int.mul_nonneg_of_nonpos_of_nonpos (a := b) (b := a / b) (by omega) h1
    omega
  · have := Int.mul_nonneg g (Int.ediv_nonneg h g)
    omega
theorem tdiv_abs (a b m n : Int) (hm : m = if a < 0 then -a else a) (hn : n = if b < 0 then -b else b) : Int.tdiv a b = if (a < 0) = (b < 0) then m / n else -(m / n) := by
  have key : ∀ x y : Int, 0 ≤ x → 0 ≤ y → Int.tdiv x y = x / y := fun x y h _ => Int.tdiv_eq_ediv_of_nonneg h
  by_cases c1 : a < 0 <;> by_cases c2 : b < 0
  · rw [if_pos c1] at hm; rw [if_pos c2] at hn
    rw [show a = -m by omega, show b = -n by omega, Int.neg_tdiv, Int.tdiv_neg, key m n (by omega) (by omega), if_pos (by simp; omega)]; omega
  · rw [if_pos c1] at hm; rw [if_neg c2] at hn
    rw [show a = -m by omega, ← hn, Int.neg_tdiv, key m n (by omega) (by omega), if_neg (by simp; omega)]
  · rw [if_neg c1] at hm; rw [if_pos c2] at hn
    rw [← hm, show b = -n by omega, Int.tdiv_neg, key m n (by omega) (by omega), if_neg (by simp; omega)]
  · rw [if_neg c1] at hm; rw [if_neg c2] at hn
    rw [← hm, ← hn, key m n (by omega) (by omega), if_pos (by simp; omega)]
theorem tmod_abs (a b m n : Int) (hm : m = if a < 0 then -a else a) (hn : n = if b < 0 then -b else b) : Int.tmod a b = if a < 0 then -(m % n) else m % n := by
  have key : ∀ x y : Int, 0 ≤ x → Int.tmod x y = x % y := fun x y h => Int.tmod_eq_emod_of_nonneg h
  have en : Int.tmod a b = Int.tmod a n := by
    rw [hn]; split
    · rw [Int.tmod_neg]
    · rfl
  rw [en]
  by_cases c1 : a < 0
  · rw [if_pos c1] at hm ⊢
    rw [show a = -m by omega, Int.neg_tmod, key m n (by omega)]
  · rw [if_neg c1] at hm ⊢
    rw [← hm, key m n (by omega)]

theorem Div_same {a b : Int} (ha : In64 a) (hb : In64 b) (k : Nat) (hk : 1 ≤ k) : ∃ r, num_Div.f a b = some r ∧ colonnaderef01_Div.f k a b = some r := by
  obtain ⟨m, em, mu, mb, ma⟩ := amount_is a ha
  obtain ⟨n, en, nu, nb, na⟩ := amount_is b hb
  obtain ⟨a1, a2⟩ := ha
  obtain ⟨b1, b2⟩ := hb
  obtain ⟨m1, m2⟩ := mu
  obtain ⟨n1, n2⟩ := nu
  unfold num_Div.f colonnaderef01_Div.f
  by_cases c : b = 0
  · rw [if_pos c, if_pos c]; exact ⟨_, rfl, rfl⟩
  rw [if_neg c, if_neg c, em, en]
  simp only [Option.bind_some]
  have hn : 1 ≤ n := by rw [na]; split <;> omega
  have hn0 : ¬ n = 0 := by omega
  rw [if_neg hn0, tdiv_pos' m n m1]
  have q0 : 0 ≤ m / n := Int.ediv_nonneg m1 n1
  have q1 : m / n ≤ m := Int.ediv_le_self n m1
  have uq : IntKind.u64.wrap (m / n) = m / n := by rw [IntKind.wrap_u64]; omega
  rw [uq]
  have sn := signed_neg k hk (m / n) ⟨q0, by omega⟩
  have sp := signed_pos k hk (m / n) ⟨q0, by omega⟩
  have td := tdiv_abs a b m n ma na
  by_cases d : b = -1
  · rw [if_pos d]
    have e1 : n = 1 := by rw [na, if_pos (by omega)]; omega
    rw [e1, Int.ediv_one] at sn sp ⊢
    have cb : decide (b < 0) = true := decide_eq_true (by omega)
    rw [cb]
    unfold num_Neg.f num_Sub.f
    simp only [w64_mod]
    by_cases c1 : a < 0
    · rw [if_pos c1] at ma
      rw [decide_eq_true c1]
      by_cases c2 : a = -9223372036854775808
      · subst c2
        refine ⟨(0, 10), ?_, ?_⟩
        · simp
        · rw [show (true != true) = false from rfl, sp.2 (by omega)]; rfl
      · refine ⟨(-a, 0), ?_, ?_⟩
        · rw [if_pos (by rw [decide_eq_false (by omega), decide_eq_false (by omega)]; rfl)]
          simp only [Option.bind_some]; congr 2; omega
        · rw [show (true != true) = false from rfl, sp.1 (by omega), ma]; rfl
    · rw [if_neg c1] at ma
      rw [decide_eq_false c1]
      refine ⟨(-a, 0), ?_, ?_⟩
      · rw [if_pos (by
          by_cases z : a = 0
          · subst z; decide
          · rw [decide_eq_true (by omega), decide_eq_true (by omega)]; rfl)]
        simp only [Option.bind_some]; congr 2; omega
      · rw [show (false != true) = true from rfl, sn.1 (by omega), ma]; rfl
  · rw [if_neg d]
    by_cases s : (a < 0) = (b < 0)
    · rw [if_pos s] at td
      have sg : (decide (a < 0) != decide (b < 0)) = false := by
        by_cases c1 : a < 0 <;> by_cases c2 : b < 0 <;> simp [c1, c2] at s ⊢
      have lt : m / n ≤ 9223372036854775807 := by
        by_cases c2 : b < 0
        · have h2 : 2 ≤ n := by rw [na, if_pos c2]; omega
          have := Int.ediv_mul_le m (show n ≠ 0 by omega)
          have h3 := Int.mul_le_mul_of_nonneg_left h2 q0
          omega
        · have c1 : ¬ a < 0 := by rw [s]; exact c2
          rw [if_neg c1] at ma; omega
      rw [sg, sp.1 lt, td, w64_mod]
      refine ⟨(m / n, 0), ?_, rfl⟩
      congr 2; omega
    · rw [if_neg s] at td
      have sg : (decide (a < 0) != decide (b < 0)) = true := by
        by_cases c1 : a < 0 <;> by_cases c2 : b < 0 <;> simp [c1, c2] at s ⊢
      rw [sg, sn.1 (by omega), td, w64_mod]
      refine ⟨(-(m / n), 0), ?_, rfl⟩
      congr 2; omega

theorem Rem_same {a b : Int} (ha : In64 a) (hb : In64 b) (k : Nat) (hk : 1 ≤ k) : ∃ r, num_Rem.f a b = some r ∧ colonnaderef01_Rem.f k a b = some r := by
  obtain ⟨m, em, mu, mb, ma⟩ := amount_is a ha
  obtain ⟨n, en, nu, nb, na⟩ := amount_is b hb
  obtain ⟨a1, a2⟩ := ha
  obtain ⟨b1, b2⟩ := hb
  obtain ⟨m1, m2⟩ := mu
  obtain ⟨n1, n2⟩ := nu
  unfold num_Rem.f colonnaderef01_Rem.f
  by_cases c : b = 0
  · rw [if_pos c, if_pos c]; exact ⟨_, rfl, rfl⟩
  rw [if_neg c, if_neg c, em, en]
  simp only [Option.bind_some]
  have hn : 1 ≤ n := by rw [na]; split <;> omega
  have hn0 : ¬ n = 0 := by omega
  rw [if_neg hn0, tmod_pos' m n m1]
  have q0 : 0 ≤ m % n := Int.emod_nonneg m (by omega)
  have q1 : m % n < n := Int.emod_lt_of_pos m (by omega)
  have q2 : m % n ≤ m := Int.emod_le_of_nonneg' m n m1
  have sn := signed_neg k hk (m % n) ⟨q0, by omega⟩
  have sp := signed_pos k hk (m % n) ⟨q0, by omega⟩
  have td := tmod_abs a b m n ma na
  have e : colonnaderef01_signed.f k (m % n) (decide (a < 0)) = some (Int.tmod a b, 0) := by
    by_cases c1 : a < 0
    · rw [if_pos c1] at td ma
      rw [decide_eq_true c1, sn.1 (by omega), td]
    · rw [if_neg c1] at td ma
      rw [decide_eq_false c1, sp.1 (by omega), td]
  rw [e]
  by_cases d : b = -1
  · rw [if_pos d]
    refine ⟨(0, 0), rfl, ?_⟩
    rw [d, Int.tmod_neg, Int.tmod_one]; rfl
  · rw [if_neg d]
    exact ⟨_, rfl, rfl⟩

theorem NumProducts (a b : Int) (wa : (Lit.int .i64 a).wf = true) (wb : (Lit.int .i64 b).wf = true) : ∃ k, colonnadelaw01_NumProducts.f k a b = some true := by
  have ha : In64 a := bounds_i64 wa
  have hb : In64 b := bounds_i64 wb
  refine ⟨10, ?_⟩
  obtain ⟨r, h1, h2, _⟩ := Mul_is ha hb 10 (by omega)
  obtain ⟨s, h3, h4⟩ := Div_same ha hb 10 (by omega)
  obtain ⟨t, h5, h6⟩ := Rem_same ha hb 10 (by omega)
  unfold colonnadelaw01_NumProducts.f
  simp [h1, h2, h3, h4, h5, h6, begun01 10 (by omega)]
end Go.Proofs.YtmjpdhledcfjaaaDoor.Pure
