/- Whole numbers as texts: num and the reference write the same. -/
import Derived.Test.YtmeopdjdjmjngaaGreatDoorStr
import Derived.Test.YtmeopdjdjmjngaaGreatDoorPureMul
import Derived.Test.YtmeopdjdjmjngaaGreatDoorA3
import Derived.Test.YtmeopdjdjmjngaaGreatDoorA4
namespace Go.Proofs.YtmeopdjdjmjngaaGreatDoor.Pure
open Go.RowKit Go.Proofs.YtmeopdjdjmjngaaGreatDoor.A Go.Proofs.YtmeopdjdjmjngaaGreatDoorW.PrintWords Go.Proofs.YtmeopdjdjmjngaaGreatDoorW.PrintLast Go.Proofs.YtmeopdjdjmjngaaGreatDoor.Str

theorem plain_step (k n m : Nat) (l : List UInt8) (hn : n < 18446744073709551616) (hl : l.length ≤ 10000) (h : 0 < n ∨ l.length < m) :
    colonnaderef01_plain.l0 (k + 1) (n : Int) (m : Int) (B l) = colonnaderef01_plain.l0 k ((n / 10 : Nat) : Int) (m : Int) (B (UInt8.ofNat (48 + n % 10) :: l)) := by
  have e1 : Int.tmod (n : Int) 10 = ((n % 10 : Nat) : Int) := by rw [Int.tmod_eq_emod_of_nonneg (by omega)]; omega
  have e2 : Int.tdiv (n : Int) 10 = ((n / 10 : Nat) : Int) := by rw [Int.tdiv_eq_ediv_of_nonneg (by omega)]; omega
  have e3 : IntKind.u64.wrap (48 + ((n % 10 : Nat) : Int)) % 256 = ((48 + n % 10 : Nat) : Int) := by rw [IntKind.wrap_u64]; omega
  have e4 : IntKind.u64.wrap ((n / 10 : Nat) : Int) = ((n / 10 : Nat) : Int) := by rw [IntKind.wrap_u64]; omega
  have e5 : strOfNums [((48 + n % 10 : Nat) : Int)] = B [UInt8.ofNat (48 + n % 10)] := by
    rw [B_nums]
    show B [UInt8.ofNat (((48 + n % 10 : Nat) : Int)).toNat] = _
    rw [Int.toNat_natCast]
  have e6 : (B [UInt8.ofNat (48 + n % 10)]).size + (B l).size ≤ 9223372036854775807 := by rw [B_size, B_size]; simp; omega
  simp only [colonnaderef01_plain.l0, e1, e2, e3, e4, Option.bind_some, e5, B_append, List.singleton_append]
  rw [if_pos e6]
  by_cases c : (n : Int) > 0
  · rw [if_pos c]
  · rw [if_neg c, if_pos (by rw [B_size]; omega)]
theorem plain_end (k m : Nat) (l : List UInt8) (h : m ≤ l.length) : colonnaderef01_plain.l0 (k + 1) 0 (m : Int) (B l) = some (B l) := by
  simp only [colonnaderef01_plain.l0]
  rw [if_neg (by omega), if_neg (by rw [B_size]; omega)]
theorem plain_loop : ∀ (d k n m : Nat) (l : List UInt8), n < 18446744073709551616 → l.length + d ≤ 10000 → (P n (m - l.length)).length = d → d < k → colonnaderef01_plain.l0 k (n : Int) (m : Int) (B l) = some (B (P n (m - l.length) ++ l)) := by
  intro d
  induction d with
  | zero =>
    intro k n m l hn hl hd hk
    obtain ⟨k, rfl⟩ : ∃ j, k = j + 1 := ⟨k - 1, by omega⟩
    have e := List.length_eq_zero_iff.1 hd
    rw [e]
    by_cases h : 0 < n ∨ 0 < m - l.length
    · rw [P_step n _ h] at e; simp at e
    · have : n = 0 := by omega
      subst this
      exact plain_end k m l (by omega)
  | succ d ih =>
    intro k n m l hn hl hd hk
    obtain ⟨k, rfl⟩ : ∃ j, k = j + 1 := ⟨k - 1, by omega⟩
    have h : 0 < n ∨ 0 < m - l.length := by
      rcases Nat.eq_zero_or_pos n with h | h
      · right
        subst h
        rcases Nat.eq_zero_or_pos (m - l.length) with g | g
        · rw [g] at hd; simp [P] at hd
        · exact g
      · exact .inl h
    rw [P_step n _ h] at hd ⊢
    rw [plain_step k n m l hn (by omega) (by omega)]
    have e : m - (UInt8.ofNat (48 + n % 10) :: l).length = m - l.length - 1 := by simp only [List.length_cons]; omega
    rw [ih k (n / 10) m _ (by omega) (by simp only [List.length_cons]; omega) (by rw [e]; simp at hd; omega) (by omega), e]
    simp
theorem plain_is (k : Nat) (hk : 2000 ≤ k) (n m : Nat) (hn : n < 18446744073709551616) (h1 : 1 ≤ m) (h2 : m ≤ 1000) : colonnaderef01_plain.f k (n : Int) (m : Int) = some (B (P n m)) := by
  have hl := P_length n m h1
  have hd := nDigits_le n 19 (by omega)
  have := plain_loop (P n m).length k n m [] hn (by simp; omega) (by simp) (by omega)
  simpa [B, colonnaderef01_plain.f] using this

theorem P_bd (n m : Nat) (hn : n < 18446744073709551616) (h1 : 1 ≤ m) (h2 : m ≤ 1000) : m ≤ (P n m).length ∧ (P n m).length ≤ 1000 := by
  have hl := P_length n m h1
  have hd := nDigits_le n 19 (by omega)
  omega

theorem itoa_neg (n : Int) (h : n < 0) : Lib.itoa n = 45 :: Lib.decDigits n.natAbs := by unfold Lib.itoa; rw [if_pos h]
theorem itoa_pos (n : Int) (h : ¬ n < 0) : Lib.itoa n = Lib.decDigits n.natAbs := by unfold Lib.itoa; rw [if_neg h]; congr 1; omega
theorem FormatInt_is (n : Int) (h : In64 n) : num_FormatInt.f n = some (B (Lib.itoa n)) := by
  obtain ⟨h1, h2⟩ := h
  unfold num_FormatInt.f
  rw [if_pos h1, if_pos h2]; rfl
theorem amount_nat (n : Int) (h : In64 n) : colonnaderef01_amount.f n = some ((n.natAbs : Nat) : Int) := by
  obtain ⟨m, e, _, _, hm⟩ := amount_is n h
  rw [e, hm]
  congr 1
  split <;> omega
theorem refFormatInt_is (k : Nat) (hk : 2000 ≤ k) (n : Int) (h : In64 n) : colonnaderef01_FormatInt.f k n = some (B (Lib.itoa n)) := by
  unfold colonnaderef01_FormatInt.f
  obtain ⟨h1, h2⟩ := h
  have hp := plain_is k hk n.natAbs 1 (by omega) (by omega) (by omega)
  rw [show (((1 : Nat)) : Int) = 1 from rfl] at hp
  rw [amount_nat n ⟨h1, h2⟩]
  simp only [Option.bind_some]
  rw [hp]
  simp only [Option.bind_some]
  have hb := P_bd n.natAbs 1 (by omega) (by omega) (by omega)
  by_cases c : n < 0
  · rw [if_pos c, if_pos (by rw [B_size]; omega), itoa_neg n c, ← P_one, show (⟨#[45]⟩ : ByteArray) = B [45] from rfl, B_append]; rfl
  · rw [if_neg c, itoa_pos n c, ← P_one]

theorem digits_bd (n : Int) (h : In64 n) : (Lib.decDigits n.natAbs).length ≤ 1000 := by
  have hdl := decDigits_length n.natAbs
  have hdd := nDigits_le n.natAbs 19 (by obtain ⟨h1, h2⟩ := h; omega)
  omega
end Go.Proofs.YtmeopdjdjmjngaaGreatDoor.Pure
