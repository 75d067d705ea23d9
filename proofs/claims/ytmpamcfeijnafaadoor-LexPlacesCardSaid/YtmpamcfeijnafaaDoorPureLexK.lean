/- The list of tokens that the printed lex computes. -/
import Derived.Test.YtmpamcfeijnafaaDoorPureLexB
import Derived.Test.YtmpamcfeijnafaaDoorP2
import Derived.Test.YtmpamcfeijnafaaDoorP3
namespace Go.Proofs.YtmpamcfeijnafaaDoor.Pure
open Go.RowKit Go.Proofs.YtmpamcfeijnafaaDoor.P Go.Proofs.YtmpamcfeijnafaaDoorW.PrintWords Go.Proofs.YtmpamcfeijnafaaDoorW.PrintLast Go.Proofs.YtmpamcfeijnafaaDoor.Str Go.Proofs.YtmpamcfeijnafaaDoor.Lex

def mk (x : Int × List UInt8 × Nat) : S25 := ⟨x.1, B x.2.1, (x.2.2 : Int)⟩
def mkAll (l : List (Int × List UInt8 × Nat)) : List S25 := l.map mk
theorem known_loop (l : List UInt8) (hl : l.length ≤ 100000000) : ∀ (f k i : Nat) (acc : List S25), i ≤ l.length → l.length < i + f → acc.length ≤ i → 2 * l.length + 10 + f < k →
    lex_known.l0 k (B l) acc (i : Int) = some (acc ++ mkAll (toks f (l.drop i) i).1, match (toks f (l.drop i) i).2 with | none => -1 | some p => (p : Int)) := by
  intro f
  induction f with
  | zero => intro k i acc h1 h2; omega
  | succ f ih =>
    intro k i acc h1 h2 ha hk
    obtain ⟨k, rfl⟩ : ∃ q, k = q + 1 := ⟨k - 1, by omega⟩
    unfold lex_known.l0
    cases e : l.drop i with
    | nil =>
      have := List.drop_eq_nil_iff.1 e
      rw [if_neg (by rw [B_size]; omega), toks_nil]
      simp [mkAll]
    | cons c r =>
      obtain ⟨g1, g2, g3, g4⟩ := drop_cons e
      rw [if_pos (by rw [B_size]; omega), if_pos (by omega), if_pos (by rw [B_size]; omega), Int.toNat_natCast, suf, e, one_B k c r (by omega) (by omega), Option.bind_some]
      cases ho : one (c :: r) with
      | none =>
        rw [oneV_none ho, toks_none f i ho]
        simp [mkAll]
      | some x =>
        obtain ⟨kd, t, n⟩ := x
        have hn := one_le ho
        rw [List.length_cons] at hn
        have hsp := sp_le false ((c :: r).drop n)
        rw [List.length_drop, List.length_cons] at hsp
        have hdd : (c :: r).drop n = l.drop (i + n) := by rw [← e, List.drop_drop]
        rw [oneV_some ho, toks_some f i ho]
        simp only
        rw [if_neg (by omega), if_pos (by omega), w64_add i n (by omega), if_pos (by omega), if_pos (by rw [B_size]; omega), Int.toNat_natCast, suf, ← hdd, space_B k _ (by rw [List.length_drop, List.length_cons]; omega) (by rw [List.length_drop, List.length_cons]; omega), Option.bind_some, w64_add _ _ (by omega)]
        have hd2 : (c :: r).drop (n + sp false ((c :: r).drop n)) = l.drop (i + (n + sp false ((c :: r).drop n))) := by rw [← e, List.drop_drop]
        rw [Nat.add_assoc, ih k _ _ (by omega) (by omega) (by rw [List.length_append, List.length_singleton]; omega) (by omega), ← hd2]
        simp [mkAll, mk]
def at1 : Option Nat → Int
  | none => -1
  | some p => (p : Int)
theorem lexknown_B (k : Nat) (l : List UInt8) (hl : l.length ≤ 100000000) (hk : 3 * l.length + 20 < k) : lex_known.f k (B l) = some (mkAll (known l).1, at1 (known l).2) := by
  have hs := sp_le false l
  unfold lex_known.f known
  rw [space_B k l (by omega) (by omega), Option.bind_some, known_loop l hl (l.length + 1) k (sp false l) [] hs (by omega) (by simp) (by omega), List.nil_append]
  cases (toks (l.length + 1) (l.drop (sp false l)) (sp false l)).2 <;> rfl
/-- the answer -/
def tokV (l : List UInt8) : List S25 × Int × Int := if l.length > 65536 then ([], 0, 3) else match (known l).2 with
  | none => (mkAll (known l).1, 0, 0)
  | some p => ([], (p : Int), 160)
theorem lexTokens_B (k : Nat) (hk : 400000 < k) (l : List UInt8) : lex_Tokens.f k (B l) = some (tokV l) := by
  unfold lex_Tokens.f tokV
  rw [B_size]
  by_cases h : l.length > 65536
  · rw [if_pos (by omega), if_pos h]
  · rw [if_neg (by omega), if_neg h, lexknown_B k l (by omega) (by omega), Option.bind_some]
    cases (known l).2 with
    | none => rfl
    | some p => exact if_pos (show (p : Int) ≥ 0 by omega)
theorem known_A : known [65, 60, 62, 49, 46, 53] = ([(1, [97], 0), (4, [60, 62], 1), (2, [49, 46, 53], 3)], none) := by decide
theorem begun16 (k : Nat) (hk : 400000 < k) : colonnadelaw16_begun.f k = some true := by
  have h := lexTokens_B k hk [65, 60, 62, 49, 46, 53]
  have e : tokV [65, 60, 62, 49, 46, 53] = ([mk (1, [97], 0), mk (4, [60, 62], 1), mk (2, [49, 46, 53], 3)], 0, 0) := by
    unfold tokV
    rw [known_A, if_neg (by decide)]
    rfl
  rw [e] at h
  unfold colonnadelaw16_begun.f
  rw [show (⟨#[65, 60, 62, 49, 46, 53]⟩ : ByteArray) = B [65, 60, 62, 49, 46, 53] from rfl, h]
  simp [mk, rd_T25, B_toList]
theorem toks_len : ∀ (f : Nat) (m : List UInt8) (i : Nat), (toks f m i).1.length ≤ m.length := by
  intro f
  induction f with
  | zero => intro m i; simp [toks]
  | succ f ih =>
    intro m i
    cases m with
    | nil => rw [toks_nil]; simp
    | cons c r =>
      cases ho : one (c :: r) with
      | none => rw [toks_none f i ho]; simp
      | some x =>
        obtain ⟨kd, t, n⟩ := x
        have hn := one_le ho
        have := ih ((c :: r).drop (n + sp false ((c :: r).drop n))) (i + (n + sp false ((c :: r).drop n)))
        rw [List.length_drop] at this
        rw [toks_some f i ho, List.length_cons]
        simp only [List.length_cons] at *
        omega
theorem known_len (l : List UInt8) : (known l).1.length ≤ l.length := by
  have := toks_len (l.length + 1) (l.drop (sp false l)) (sp false l)
  rw [List.length_drop] at this
  unfold known
  omega
theorem tokV_len (l : List UInt8) : (tokV l).1.length ≤ 65536 := by
  unfold tokV
  by_cases h : l.length > 65536
  · rw [if_pos h]; simp
  · rw [if_neg h]
    have := known_len l
    cases (known l).2 with
    | none => simp [mkAll]; omega
    | some p => simp
end Go.Proofs.YtmpamcfeijnafaaDoor.Pure
