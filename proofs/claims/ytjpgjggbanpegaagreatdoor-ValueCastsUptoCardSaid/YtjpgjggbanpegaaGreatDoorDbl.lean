/- A text with each quotation mark doubled: the library's ReplaceAll says the same. No program. -/
import Derived.Lib.Replace
import Derived.Lib.IndexBytes
namespace Go.Proofs.YtjpgjggbanpegaaGreatDoor.Str
def dbl : List UInt8 → List UInt8
  | [] => []
  | c :: r => if c = 39 then 39 :: 39 :: dbl r else c :: dbl r
theorem dbl_le : ∀ l : List UInt8, (dbl l).length ≤ 2 * l.length
  | [] => by simp [dbl]
  | c :: r => by
    have := dbl_le r
    unfold dbl
    split <;> simp only [List.length_cons] <;> omega
theorem replaceK_dbl : ∀ s : List UInt8, Lib.replaceK [39] [39, 39] (Lib.count s [39]) s = dbl s
  | [] => by
    rw [Lib.count_one]
    rfl
  | c :: r => by
    have ih := replaceK_dbl r
    by_cases h : c = 39
    · subst h
      rw [Lib.count_cons_eq, Nat.add_comm 1, Lib.replaceK_hit [39] [39, 39] _ _ 0 (by rw [Lib.index_one]; simp [Lib.indexByte])]
      simp [dbl, ih]
    · rw [Lib.count_cons_ne _ _ _ h]
      cases k : Lib.count r [39] with
      | zero =>
        rw [k] at ih
        unfold Lib.replaceK at ih ⊢
        simp only [dbl, if_neg h, ← ih]
      | succ k' =>
        rw [k] at ih
        obtain ⟨i, hi⟩ := Lib.index_of_count (s := r) (old := [39]) (by omega)
        have hi2 : Lib.index (c :: r) [39] = ((i + 1 : Nat) : Int) := by
          rw [Lib.index_one] at hi ⊢
          unfold Lib.indexByte
          simp [h, hi]
          try omega
        rw [Lib.replaceK_hit [39] [39, 39] _ _ i hi] at ih
        rw [Lib.replaceK_hit [39] [39, 39] _ _ (i + 1) hi2]
        simp only [dbl, if_neg h, ← ih, List.take_succ_cons, List.cons_append, List.length_singleton]
        rw [show i + 1 + 1 = (i + 1) + 1 from rfl, List.drop_succ_cons]
theorem replaceAll_dbl (s : List UInt8) : Lib.replaceAll s [39] [39, 39] = dbl s := by
  unfold Lib.replaceAll Lib.replace Lib.replaceNum
  rw [if_neg (by decide), if_pos (.inl (by omega))]
  exact replaceK_dbl s
end Go.Proofs.YtjpgjggbanpegaaGreatDoor.Str
