/- The list of tokens that the printed reference computes. -/
import Derived.Test.YtmpamcfeijnafaaPureLexD
import Derived.Test.YtmpamcfeijnafaaPureLexK
import Derived.Test.YtmpamcfeijnafaaR14
import Derived.Test.YtmpamcfeijnafaaR15
namespace Go.Proofs.Ytmpamcfeijnafaa.Pure
open Go.RowKit Go.Proofs.Ytmpamcfeijnafaa.R Go.Proofs.YtmpamcfeijnafaaW.PrintWords Go.Proofs.YtmpamcfeijnafaaW.PrintLast Go.Proofs.Ytmpamcfeijnafaa.Str Go.Proofs.Ytmpamcfeijnafaa.Lex

theorem rKnown_loop (l : List UInt8) (hl : l.length ≤ 100000000) : ∀ (f k i : Nat) (acc : List S29), i ≤ l.length → l.length < i + f → acc.length ≤ i → 4 * l.length + 20 + f < k →
    colonnaderef16_Known.l0 k (B l) acc (i : Int) = some (acc ++ mkAll (toks f (l.drop i) i).1, match (toks f (l.drop i) i).2 with | none => (0, true) | some p => ((p : Int), false)) := by
  intro f
  induction f with
  | zero => intro k i acc h1 h2; omega
  | succ f ih =>
    intro k i acc h1 h2 ha hk
    obtain ⟨k, rfl⟩ : ∃ q, k = q + 1 := ⟨k - 1, by omega⟩
    unfold colonnaderef16_Known.l0
    cases e : l.drop i with
    | nil =>
      have := List.drop_eq_nil_iff.1 e
      rw [if_neg (by rw [B_size]; omega), toks_nil]
      simp [mkAll]
    | cons c r =>
      obtain ⟨g1, g2, g3, g4⟩ := drop_cons e
      have hone := rone_B k l hl i g1 (by omega)
      rw [e] at hone
      rw [if_pos (by rw [B_size]; omega)]
      cases ho : one (c :: r) with
      | none =>
        rw [ho] at hone
        obtain ⟨a, b, c', d, hone⟩ := hone
        rw [hone, Option.bind_some, toks_none f i ho]
        simp only
        rw [if_neg (by decide)]
        simp [mkAll]
      | some x =>
        obtain ⟨kd, t, n⟩ := x
        rw [ho] at hone
        simp only [oneR] at hone
        have hn := one_le ho
        rw [List.length_cons] at hn
        have hsp := sp_le false ((c :: r).drop n)
        rw [List.length_drop, List.length_cons] at hsp
        have hdd : (c :: r).drop n = l.drop (i + n) := by rw [← e, List.drop_drop]
        rw [hone, Option.bind_some, toks_some f i ho]
        simp only [if_true]
        rw [if_pos (by omega), pass_B k l hl (i + n) (by omega) (by omega), Option.bind_some, ← hdd]
        have hd2 : (c :: r).drop (n + sp false ((c :: r).drop n)) = l.drop (i + (n + sp false ((c :: r).drop n))) := by rw [← e, List.drop_drop]
        rw [Nat.add_assoc, ih k _ _ (by omega) (by omega) (by rw [List.length_append, List.length_singleton]; omega) (by omega), ← hd2]
        simp [mkAll, mk]
def at2 : Option Nat → Int × Bool
  | none => (0, true)
  | some p => ((p : Int), false)
theorem rKnown_B (k : Nat) (l : List UInt8) (hl : l.length ≤ 100000000) (hk : 5 * l.length + 30 < k) : colonnaderef16_Known.f k (B l) = some (mkAll (known l).1, at2 (known l).2) := by
  have hs := sp_le false l
  have hp := pass_B k l hl 0 (by omega) (by omega)
  rw [show ((0 : Nat) : Int) = 0 from rfl, List.drop_zero, Nat.zero_add] at hp
  unfold colonnaderef16_Known.f known
  rw [hp, Option.bind_some, rKnown_loop l hl (l.length + 1) k (sp false l) [] hs (by omega) (by simp) (by omega), List.nil_append]
  cases (toks (l.length + 1) (l.drop (sp false l)) (sp false l)).2 <;> rfl
theorem rTokens_B (k : Nat) (hk : 400000 < k) (l : List UInt8) : colonnaderef16_Tokens.f k (B l) = some (tokV l) := by
  unfold colonnaderef16_Tokens.f tokV
  rw [B_size]
  by_cases h : l.length > 65536
  · rw [if_pos (by omega), if_pos h]
  · rw [if_neg (by omega), if_neg h, rKnown_B k l (by omega) (by omega), Option.bind_some]
    cases (known l).2 with
    | none => rfl
    | some p => exact if_neg (show ¬ (false = true) by decide)
end Go.Proofs.Ytmpamcfeijnafaa.Pure
