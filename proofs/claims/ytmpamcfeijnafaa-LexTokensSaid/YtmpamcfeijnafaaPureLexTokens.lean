/- LexTokens: what the printed law computes is true, for any text. -/
import Derived.Test.YtmpamcfeijnafaaPureLexD
import Derived.Test.YtmpamcfeijnafaaR15
import Derived.Test.YtmpamcfeijnafaaR16
import Derived.Test.YtmpamcfeijnafaaR6
namespace Go.Proofs.Ytmpamcfeijnafaa.Pure
open Go.RowKit Go.Proofs.Ytmpamcfeijnafaa.R Go.Proofs.YtmpamcfeijnafaaW.PrintWords Go.Proofs.YtmpamcfeijnafaaW.PrintLast Go.Proofs.Ytmpamcfeijnafaa.Str Go.Proofs.Ytmpamcfeijnafaa.Lex

def at1 : Option Nat → Int
  | none => -1
  | some p => (p : Int)
theorem lexknown_B (k : Nat) (l : List UInt8) (hl : l.length ≤ 100000) (hk : 3 * l.length + 20 < k) : lex_known.f k (B l) = some (mkAll (known l).1, at1 (known l).2) := by
  have hs := sp_le false l
  unfold lex_known.f known
  rw [space_B k l (by omega) (by omega), Option.bind_some, known_loop l hl (l.length + 1) k (sp false l) [] hs (by omega) (by simp) (by omega), List.nil_append]
  cases (toks (l.length + 1) (l.drop (sp false l)) (sp false l)).2 <;> rfl
def at2 : Option Nat → Int × Bool
  | none => (0, true)
  | some p => ((p : Int), false)
theorem rKnown_B (k : Nat) (l : List UInt8) (hl : l.length ≤ 100000) (hk : 5 * l.length + 30 < k) : colonnaderef16_Known.f k (B l) = some (mkAll (known l).1, at2 (known l).2) := by
  have hs := sp_le false l
  have hp := pass_B k l hl 0 (by omega) (by omega)
  rw [show ((0 : Nat) : Int) = 0 from rfl, List.drop_zero, Nat.zero_add] at hp
  unfold colonnaderef16_Known.f known
  rw [hp, Option.bind_some, rKnown_loop l hl (l.length + 1) k (sp false l) [] hs (by omega) (by simp) (by omega), List.nil_append]
  cases (toks (l.length + 1) (l.drop (sp false l)) (sp false l)).2 <;> rfl
/-- the answer -/
def tokV (l : List UInt8) : List S29 × Int × Int := if l.length > 65536 then ([], 0, 3) else match (known l).2 with
  | none => (mkAll (known l).1, 0, 0)
  | some p => ([], (p : Int), 160)
theorem lexTokens_B (k : Nat) (hk : 400000 < k) (l : List UInt8) : lex_Tokens.f k (B l) = some (tokV l) := by
  unfold lex_Tokens.f tokV
  rw [B_size]
  by_cases h : l.length > 65536
  · rw [if_pos (by omega), if_pos h]
  · rw [if_neg (by omega), if_neg h, lexknown_B k l (by omega) (by omega), Option.bind_some]
    cases (known l).2 with
    | none => rfl
    | some p => exact if_pos (show (p : Int) ≥ 0 by omega)
theorem rTokens_B (k : Nat) (hk : 400000 < k) (l : List UInt8) : colonnaderef16_Tokens.f k (B l) = some (tokV l) := by
  unfold colonnaderef16_Tokens.f tokV
  rw [B_size]
  by_cases h : l.length > 65536
  · rw [if_pos (by omega), if_pos h]
  · rw [if_neg (by omega), if_neg h, rKnown_B k l (by omega) (by omega), Option.bind_some]
    cases (known l).2 with
    | none => rfl
    | some p => exact if_neg (show ¬ (false = true) by decide)
theorem known_A : known [65, 60, 62, 49, 46, 53] = ([(1, [97], 0), (4, [60, 62], 1), (2, [49, 46, 53], 3)], none) := by decide
theorem begun16 (k : Nat) (hk : 400000 < k) : colonnadelaw16_begun.f k = some true := by
  have h := lexTokens_B k hk [65, 60, 62, 49, 46, 53]
  have e : tokV [65, 60, 62, 49, 46, 53] = ([mk (1, [97], 0), mk (4, [60, 62], 1), mk (2, [49, 46, 53], 3)], 0, 0) := by
    unfold tokV
    rw [known_A, if_neg (by decide)]
    rfl
  rw [e] at h
  unfold colonnadelaw16_begun.f
  rw [show (⟨#[65, 60, 62, 49, 46, 53]⟩ : ByteArray) = B [65, 60, 62, 49, 46, 53] from rfl, h]
  simp [mk, rd_T29, B_toList]
theorem same_loop (L : List S29) (hL : L.length ≤ 10000000) : ∀ (d k i : Nat), i + d = L.length → d < k → api_Token.l0 k L L (L.length : Int) (i : Int) = some true := by
  intro d
  induction d with
  | zero =>
    intro k i h hk
    obtain ⟨k, rfl⟩ : ∃ q, k = q + 1 := ⟨k - 1, by omega⟩
    unfold api_Token.l0
    rw [if_neg (by omega)]
  | succ d ih =>
    intro k i h hk
    obtain ⟨k, rfl⟩ : ∃ q, k = q + 1 := ⟨k - 1, by omega⟩
    unfold api_Token.l0
    rw [if_pos (by omega), if_pos (by omega), if_pos (by omega), if_pos (by omega), if_neg (by simp), w64_succ i (by omega), ih k (i + 1) (by omega) (by omega)]
theorem same_B (k : Nat) (L : List S29) (hL : L.length ≤ 10000000) (hk : L.length < k) : api_Token.f k L L = some true := by
  unfold api_Token.f
  rw [if_pos rfl]
  exact same_loop L hL L.length k 0 (by omega) hk
theorem toks_len : ∀ (f : Nat) (m : List UInt8) (i : Nat), (toks f m i).1.length ≤ m.length := by
  intro f
  induction f with
  | zero => intro m i; simp [toks]
  | succ f ih =>
    intro m i
    cases m with
    | nil => rw [toks_nil]; simp
    | cons c r =>
      cases ho : one (c :: r) with
      | none => rw [toks_none f i ho]; simp
      | some x =>
        obtain ⟨kd, t, n⟩ := x
        have hn := one_le ho
        have := ih ((c :: r).drop (n + sp false ((c :: r).drop n))) (i + (n + sp false ((c :: r).drop n)))
        rw [List.length_drop] at this
        rw [toks_some f i ho, List.length_cons]
        simp only [List.length_cons] at *
        omega
theorem known_len (l : List UInt8) : (known l).1.length ≤ l.length := by
  have := toks_len (l.length + 1) (l.drop (sp false l)) (sp false l)
  rw [List.length_drop] at this
  unfold known
  omega
theorem tokV_len (l : List UInt8) : (tokV l).1.length ≤ 65536 := by
  unfold tokV
  by_cases h : l.length > 65536
  · rw [if_pos h]; simp
  · rw [if_neg h]
    have := known_len l
    cases (known l).2 with
    | none => simp [mkAll]; omega
    | some p => simp
theorem LexTokens (a0 : ByteArray) (_w0 : a0.size ≤ 140737488351232) : ∃ k, colonnadelaw16_LexTokens.f k a0 = some true := by
  refine ⟨500000, ?_⟩
  have hl := tokV_len a0.data.toList
  unfold colonnadelaw16_LexTokens.f
  rw [B_of a0, lexTokens_B _ (by omega), rTokens_B _ (by omega), begun16 _ (by omega)]
  simp only [Option.bind_some, if_true]
  rw [same_B _ _ (by omega) (by omega)]
  simp
end Go.Proofs.Ytmpamcfeijnafaa.Pure
