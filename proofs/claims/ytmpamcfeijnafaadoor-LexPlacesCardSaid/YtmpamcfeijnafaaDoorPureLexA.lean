/- What the printed functions of lex compute: the spaces, words, numbers and the token ahead. -/
import Derived.Test.YtmpamcfeijnafaaDoorLex
import Derived.Lib.IndexAny
import Derived.Lib.IndexLaws
import Derived.Test.YtmpamcfeijnafaaDoorP2
namespace Go.Proofs.YtmpamcfeijnafaaDoor.Pure
open Go.RowKit Go.Proofs.YtmpamcfeijnafaaDoor.P Go.Proofs.YtmpamcfeijnafaaDoorW.PrintWords Go.Proofs.YtmpamcfeijnafaaDoorW.PrintLast Go.Proofs.YtmpamcfeijnafaaDoor.Str Go.Proofs.YtmpamcfeijnafaaDoor.Lex

theorem w64_mod (x : Int) : wrap64 x = (x + 9223372036854775808) % 18446744073709551616 - 9223372036854775808 := by unfold wrap64; rfl
theorem w64_id {x : Int} (h : 0 ≤ x) (g : x ≤ 9223372036854775807) : wrap64 x = x := by rw [w64_mod]; omega
theorem w64_succ (a : Nat) (h : a ≤ 100000000000000000) : wrap64 ((a : Int) + 1) = ((a + 1 : Nat) : Int) := by rw [w64_mod]; omega
theorem w64_add (a b : Nat) (h : a + b ≤ 100000000000000000) : wrap64 ((a : Int) + (b : Int)) = ((a + b : Nat) : Int) := by rw [w64_mod]; omega
theorem w64_one (a : Nat) (h : a ≤ 100000000000000000) : wrap64 (1 + (a : Int)) = ((1 + a : Nat) : Int) := by rw [w64_mod]; omega
theorem w64_two (a : Nat) (h : a ≤ 100000000000000000) : wrap64 ((a : Int) + 2) = ((a + 2 : Nat) : Int) := by rw [w64_mod]; omega
theorem w64_sub (a b : Nat) (h : a ≤ 100000000000000000) (g : b ≤ a) : wrap64 ((a : Int) - (b : Int)) = ((a - b : Nat) : Int) := by rw [w64_mod]; omega
theorem bt_B (l : List UInt8) (i : Nat) : bt (B l) (i : Int) = ((l.getD i 0).toNat : Int) := by
  unfold bt
  simp only [Int.toNat_natCast]
  by_cases h : i < l.length
  · rw [dif_pos (by rw [B_size]; exact h), List.getD_eq_getElem?_getD, List.getElem?_eq_getElem h]
    rfl
  · rw [dif_neg (by rw [B_size]; exact h), List.getD_eq_getElem?_getD, List.getElem?_eq_none (by omega)]
    rfl
theorem suf (l : List UInt8) (i : Nat) : (B l).extract i (B l).size = B (l.drop i) := by
  rw [B_extract, B_size, List.take_length]
theorem toNat_inj {a b : UInt8} : (a.toNat : Int) = (b.toNat : Int) ↔ a = b := by
  constructor
  · intro h; exact UInt8.toNat_inj.mp (by omega)
  · rintro rfl; rfl
theorem idx_B (c : UInt8) (l : List UInt8) : strings_IndexByte.f (B l) (c.toNat : Int) = some (Lib.indexByte l c) := by
  unfold strings_IndexByte.f
  rw [B_data, Int.toNat_natCast]
  congr 2
  exact UInt8.ofNat_toNat
theorem is_B (c : UInt8) (set : List UInt8) : lex_is.f (c.toNat : Int) (B set) = some (set.contains c) := by
  unfold lex_is.f
  rw [idx_B, Option.bind_some, Lib.contains_iff_indexByte]
theorem run_loop (set m : List UInt8) (hm : m.length ≤ 200000000) : ∀ (d k j : Nat), j + d = m.length → d < k → lex_run.l0 k (B m) (B set) (j : Int) = some ((j + run (fun c => set.contains c) (m.drop j) : Nat) : Int) := by
  intro d
  induction d with
  | zero =>
    intro k j h hk
    obtain ⟨k, rfl⟩ : ∃ q, k = q + 1 := ⟨k - 1, by omega⟩
    unfold lex_run.l0
    rw [if_neg (by rw [B_size]; omega), List.drop_of_length_le (by omega)]
    simp [run]
  | succ d ih =>
    intro k j h hk
    obtain ⟨k, rfl⟩ : ∃ q, k = q + 1 := ⟨k - 1, by omega⟩
    have hj : j < m.length := by omega
    unfold lex_run.l0
    rw [if_pos (by rw [B_size]; omega), if_pos (by omega), bt_B, is_B, Option.bind_some, List.drop_eq_getElem_cons hj, run_cons]
    have e : m.getD j 0 = m[j] := by rw [List.getD_eq_getElem?_getD, List.getElem?_eq_getElem hj]; rfl
    rw [e]
    by_cases c : set.contains m[j] = true
    · rw [if_pos c, if_pos c, w64_succ j (by omega), ih k (j + 1) (by omega) (by omega)]
      congr 2; omega
    · rw [if_neg c, if_neg c]; rfl
theorem run_B (k : Nat) (set m : List UInt8) (hm : m.length ≤ 200000000) (hk : m.length < k) : lex_run.f k (B m) (B set) = some ((run (fun c => set.contains c) m : Nat) : Int) := by
  have := run_loop set m hm m.length k 0 (by omega) hk
  unfold lex_run.f
  rw [show (0 : Int) = ((0 : Nat) : Int) from rfl, this]
  simp
theorem prefix_B (m : List UInt8) : strings_HasPrefix.f (B m) (B [45, 45]) = some (decide (m.getD 0 0 = 45 ∧ m.getD 1 0 = 45)) := by
  unfold strings_HasPrefix.f stringslite_HasPrefix.f
  simp only [B_size, List.length_cons, List.length_nil]
  match m with
  | [] => simp
  | [a] => simp
  | a :: b :: r =>
    rw [if_pos (by simp only [List.length_cons]; omega), if_pos (by omega), if_pos (by simp only [List.length_cons]; omega), show (((0 + 1 + 1 : Nat) : Int)).toNat = 2 from rfl, B_extract]
    simp only [B_toList, Option.bind_some, List.take, List.drop, List.getD_cons_zero, List.getD_cons_succ]
    congr 1
    by_cases h1 : a = 45 <;> by_cases h2 : b = 45 <;> simp [h1, h2]

/-- space ahead is gone through at once -/
theorem sp_run (m : List UInt8) : sp false m = run isP m + sp false (m.drop (run isP m)) := by
  induction m with
  | nil => simp [run, sp]
  | cons c r ih =>
    rw [run_cons]
    by_cases h : isP c = true
    · rw [if_pos h, Nat.add_comm 1, List.drop_succ_cons]
      conv => lhs; unfold sp
      rw [if_pos h, ih]; omega
    · rw [if_neg h]; simp
theorem run_stop (p : UInt8 → Bool) (m : List UInt8) : (m.drop (run p m)).head?.all (fun c => !p c) = true := by
  induction m with
  | nil => simp [run]
  | cons c r ih =>
    rw [run_cons]
    by_cases h : p c = true
    · rw [if_pos h, Nat.add_comm 1, List.drop_succ_cons]; exact ih
    · rw [if_neg h]; simp [h]
theorem sp_remark : ∀ m : List UInt8, (Lib.indexByte m 10 = -1 ∧ sp true m = m.length) ∨ ∃ q : Nat, Lib.indexByte m 10 = (q : Int) ∧ q < m.length ∧ sp true m = q + sp false (m.drop q) ∧ m.getD q 0 = 10
  | [] => .inl (by simp [sp, Lib.indexByte])
  | c :: r => by
    unfold Lib.indexByte
    by_cases h : c = 10
    · subst h
      exact .inr ⟨0, by simp, by simp, by simp [sp, isP, SPC], rfl⟩
    · simp only [beq_iff_eq, h, if_false]
      rcases sp_remark r with ⟨e, g⟩ | ⟨q, e, h1, h2, h3⟩
      · exact .inl ⟨by rw [if_pos e], by rw [sp, if_neg h, g, List.length_cons]; omega⟩
      · exact .inr ⟨q + 1, by rw [if_neg (by omega), e]; omega, by rw [List.length_cons]; omega, by rw [sp, if_neg h, h2, List.drop_succ_cons]; omega, by rw [List.getD_cons_succ]; exact h3⟩
theorem sp_dash (r : List UInt8) (h : r.head? = some 45) : sp false (45 :: r) = sp true (45 :: r) := by
  simp [sp, h, isP, SPC]
theorem sp_stop (m : List UInt8) (h1 : m.head?.all (fun c => !isP c) = true) (h2 : ¬ (m.getD 0 0 = 45 ∧ m.getD 1 0 = 45)) : sp false m = 0 := by
  match m with
  | [] => rfl
  | [c] =>
    simp only [List.head?_cons, Option.all_some, Bool.not_eq_true'] at h1
    rw [sp, if_neg (by rw [h1]; decide), if_neg (by simp)]
  | c :: d :: r =>
    simp only [List.head?_cons, Option.all_some, Bool.not_eq_true'] at h1
    simp only [List.getD_cons_zero, List.getD_cons_succ] at h2
    rw [sp, if_neg (by rw [h1]; decide), if_neg (by simpa using h2)]
theorem head_of (m : List UInt8) (h : m.getD 0 0 = 45 ∧ m.getD 1 0 = 45) : ∃ r, m = 45 :: r ∧ r.head? = some 45 := by
  match m with
  | [] => simp at h
  | [c] => simp at h
  | c :: d :: r =>
    simp only [List.getD_cons_zero, List.getD_cons_succ] at h
    obtain ⟨rfl, rfl⟩ := h
    exact ⟨_, rfl, rfl⟩

theorem space_loop : ∀ (n : Nat) (m : List UInt8) (k all : Nat), m.length ≤ n → m.length ≤ all → all ≤ 200000000 → n + n + 2 < k → lex_space.l0 k (B m) (all : Int) = some ((all - m.length + sp false m : Nat) : Int) := by
  intro n
  induction n using Nat.strongRecOn with
  | _ n ih =>
  intro m k all h1 h2 h3 hk
  obtain ⟨k, rfl⟩ : ∃ q, k = q + 1 := ⟨k - 1, by omega⟩
  have hr := run_le isP m
  have hR : lex_run.f k (B m) (B SPC) = some ((run isP m : Nat) : Int) := run_B k SPC m (by omega) (by omega)
  have hs := sp_run m
  have hst := run_stop isP m
  have hl : (m.drop (run isP m)).length = m.length - run isP m := List.length_drop
  unfold lex_space.l0
  rw [show (⟨#[9, 10, 13, 32]⟩ : ByteArray) = B SPC from rfl, hR, Option.bind_some, if_pos (by omega), if_pos (by rw [B_size]; omega), Int.toNat_natCast, suf, show (⟨#[45, 45]⟩ : ByteArray) = B [45, 45] from rfl, prefix_B, Option.bind_some]
  generalize m.drop (run isP m) = m' at *
  by_cases c : m'.getD 0 0 = 45 ∧ m'.getD 1 0 = 45
  · rw [if_pos (by simpa using c)]
    have hi := idx_B 10 m'
    rw [show (((10 : UInt8).toNat : Nat) : Int) = 10 from rfl] at hi
    rw [hi, Option.bind_some]
    obtain ⟨r, hr1, hr2⟩ := head_of m' c
    have hd : sp false m' = sp true m' := by rw [hr1]; exact sp_dash r hr2
    rcases sp_remark m' with ⟨e, g⟩ | ⟨q, e, g1, g2, g3⟩
    · rw [e, if_pos (by omega)]
      congr 2; omega
    · have hq : 2 ≤ q := by
        rcases q with _ | _ | q
        · rw [c.1] at g3; exact absurd g3 (by decide)
        · rw [c.2] at g3; exact absurd g3 (by decide)
        · omega
      rw [e, if_neg (by omega), if_pos (by omega), if_pos (by rw [B_size]; omega), Int.toNat_natCast, suf]
      have hl2 : (m'.drop q).length = m'.length - q := List.length_drop
      rw [ih (n - 1) (by omega) (m'.drop q) k all (by omega) (by omega) h3 (by omega)]
      congr 2; omega
  · rw [if_neg (by simpa using c), sp_stop m' hst c] at *
    rw [B_size, w64_sub _ _ (by omega) (by omega)]
    congr 2; omega
theorem space_B (k : Nat) (m : List UInt8) (hm : m.length ≤ 200000000) (hk : m.length + m.length + 2 < k) : lex_space.f k (B m) = some ((sp false m : Nat) : Int) := by
  have := space_loop m.length m k m.length (Nat.le_refl _) (Nat.le_refl _) hm hk
  unfold lex_space.f
  rw [B_size, this]
  simp
theorem number_B (k : Nat) (m : List UInt8) (hm : m.length ≤ 200000000) (hk : m.length < k) : lex_number.f k (B m) = some ((numb m : Nat) : Int) := by
  have hR : lex_run.f k (B m) (B DIG) = some ((run isD m : Nat) : Int) := run_B k DIG m hm hk
  have hr := run_le isD m
  have hw := w64_succ (run isD m) (by omega)
  have hi : ∀ c, lex_is.f (c.toNat : Int) (B DIG) = some (isD c) := fun c => is_B c DIG
  unfold lex_number.f
  rw [show (⟨#[48, 49, 50, 51, 52, 53, 54, 55, 56, 57]⟩ : ByteArray) = B DIG from rfl, hR, Option.bind_some, hw]
  clear hw
  unfold numb
  simp only
  generalize hn : run isD m = n at *
  by_cases c : ((n + 1 : Nat) : Int) < ((B m).size : Int)
  · have c' := c
    rw [B_size] at c'
    rw [if_pos c, if_pos (by omega), if_pos (by rw [B_size]; omega), bt_B, bt_B, hi]
    by_cases d : m.getD n 0 = 46
    · rw [if_pos (by rw [d]; rfl), if_pos (by omega), Option.bind_some]
      by_cases e : isD (m.getD (n + 1) 0) = true
      · rw [if_pos e, if_pos (by omega), Int.toNat_natCast, suf, if_pos ⟨d, e⟩]
        have hl : (m.drop (n + 1)).length = m.length - (n + 1) := List.length_drop
        have hR2 : lex_run.f k (B (m.drop (n + 1))) (B DIG) = some ((run isD (m.drop (n + 1)) : Nat) : Int) := run_B k DIG _ (by omega) (by omega)
        have hr2 := run_le isD (m.drop (n + 1))
        rw [hR2, Option.bind_some]
        rw [w64_one _ (by omega), w64_add _ _ (by omega)]
        congr 2; omega
      · rw [if_neg e, if_neg (fun h => e h.2)]
    · rw [if_neg (by intro h; exact d (toNat_inj.1 h)), if_neg (fun h => d h.1)]
  · rw [if_neg c, if_neg]
    intro h
    rw [B_size] at c
    have := getD_lt (l := m) (n := n + 1) (c := m.getD (n + 1) 0) rfl (by intro e; rw [e] at h; exact absurd h.2 (by decide))
    omega
end Go.Proofs.YtmpamcfeijnafaaDoor.Pure
