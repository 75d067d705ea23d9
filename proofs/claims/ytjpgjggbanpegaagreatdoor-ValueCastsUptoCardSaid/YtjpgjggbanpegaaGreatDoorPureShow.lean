/- Values as texts, their keys and hashes: the printed functions and the reference say the same, for values that are not too great. -/
import Derived.Test.YtjpgjggbanpegaaGreatDoorPureWrites
import Derived.Test.YtjpgjggbanpegaaGreatDoorDbl
import Derived.Test.YtjpgjggbanpegaaGreatDoorDec
import Derived.Lib.ItoaLen
import Derived.Test.YtjpgjggbanpegaaGreatDoorE3
import Derived.Test.YtjpgjggbanpegaaGreatDoorE4
import Derived.Test.YtjpgjggbanpegaaGreatDoorE7
import Derived.Test.YtjpgjggbanpegaaGreatDoorE8
namespace Go.Proofs.YtjpgjggbanpegaaGreatDoor.Pure
open Go.RowKit Go.Proofs.YtjpgjggbanpegaaGreatDoor.E Go.Proofs.YtjpgjggbanpegaaGreatDoorW.PrintWords Go.Proofs.YtjpgjggbanpegaaGreatDoorW.PrintLast Go.Proofs.YtjpgjggbanpegaaGreatDoor.Str Go.Proofs.YtjpgjggbanpegaaGreatDoor.Cal
theorem btB (l : List UInt8) (i : Nat) (h : i < l.length) : bt (B l) (i : Int) = ((l.getD i 0).toNat : Int) := by
  unfold bt
  rw [dif_pos (show ((i : Int)).toNat < (B l).size by rw [B_size]; exact h), List.getD_eq_getElem?_getD, List.getElem?_eq_getElem h]
  rfl
theorem u8c (c : UInt8) : UInt8.ofNat ((c.toNat : Int)).toNat = c := by rw [Int.toNat_natCast]; exact UInt8.ofNat_toNat
theorem w64s (a : Nat) (h : a ≤ 1000000000000000000) : wrap64 ((a : Int) + 1) = ((a + 1 : Nat) : Int) := by rw [wr (by omega) (by omega)]; omega
theorem u39 (c : UInt8) : ((c.toNat : Int) = 39) ↔ c = 39 := by
  constructor
  · intro h
    have h1 : c.toNat = (39 : UInt8).toNat := by
      have : (39 : UInt8).toNat = 39 := by decide
      omega
    exact UInt8.toNat_inj.1 h1
  · rintro rfl; decide
theorem sizeS (s : ByteArray) : s.data.toList.length = s.size := Array.length_toList
theorem getD_cons_drop {l : List UInt8} {i : Nat} (h : i < l.length) : l.drop i = l.getD i 0 :: l.drop (i + 1) := by
  rw [List.drop_eq_getElem_cons h, List.getD_eq_getElem?_getD, List.getElem?_eq_getElem h]; rfl
theorem refShow_loop (a0 a1 a3 : Int) (a2 : Bool) (l : List UInt8) (hl : l.length ≤ 68000000) : ∀ (d k i : Nat) (acc : List Int), i + d = l.length → acc.length ≤ 2 * i + 1 → d < k →
    colonnaderef02_Show.l0 k acc (i : Int) a0 a1 a2 a3 (B l) = some (B ((acc.map fun n => UInt8.ofNat n.toNat) ++ (dbl (l.drop i) ++ [39]))) := by
  intro d
  induction d with
  | zero =>
    intro k i acc h ha hk
    obtain ⟨k, rfl⟩ : ∃ q, k = q + 1 := ⟨k - 1, by omega⟩
    unfold colonnaderef02_Show.l0
    rw [if_neg (by rw [B_size]; omega), if_pos (by omega), B_nums, List.drop_of_length_le (by omega)]
    simp [dbl]
  | succ d ih =>
    intro k i acc h ha hk
    obtain ⟨k, rfl⟩ : ∃ q, k = q + 1 := ⟨k - 1, by omega⟩
    have hi : i < l.length := by omega
    unfold colonnaderef02_Show.l0
    rw [if_pos (by rw [B_size]; omega), if_pos (by omega), btB l i hi, w64s i (by omega), getD_cons_drop hi]
    obtain ⟨c, hc⟩ : ∃ c, l.getD i 0 = c := ⟨_, rfl⟩
    rw [hc]
    by_cases g : c = 39
    · rw [if_pos ((u39 c).2 g), if_pos (by omega), Option.bind_some, if_pos (by rw [List.length_append, List.length_singleton]; omega), ih k (i + 1) _ (by omega) (by simp; omega) (by omega)]
      subst g
      simp [dbl]
    · rw [if_neg (fun h => g ((u39 c).1 h)), if_pos (by omega), ih k (i + 1) _ (by omega) (by simp; omega) (by omega)]
      simp [dbl, g, u8c]
theorem replaceS (s : ByteArray) (h : s.size ≤ 67108864) : strings_ReplaceAll.f s (⟨#[39]⟩ : ByteArray) (⟨#[39, 39]⟩ : ByteArray) = some (B (dbl s.data.toList)) := by
  unfold strings_ReplaceAll.f
  have hc : Lib.countB s (⟨#[39]⟩ : ByteArray) ≤ s.size := by
    unfold Lib.countB
    show Lib.count s.data.toList [39] ≤ _
    rw [Lib.count_one]
    have := List.count_le_length (a := (39 : UInt8)) (l := s.data.toList)
    rw [sizeS] at this
    exact this
  have h2 : (⟨#[39, 39]⟩ : ByteArray).size = 2 := rfl
  have h1 : (⟨#[39]⟩ : ByteArray).size = 1 := rfl
  rw [h2, h1, if_pos ⟨by omega, by omega, by omega⟩]
  show some (B (Lib.replaceAll s.data.toList [39] [39, 39])) = _
  rw [replaceAll_dbl]
theorem Dec_both (k : Nat) (hk : 2000 ≤ k) (n s : Int) (h : In64 n) : ∃ r, num_FormatDec.f n s = some r ∧ colonnaderef01_FormatDec.f k n s = some r := by
  by_cases g : 0 ≤ s ∧ s ≤ 18
  · obtain ⟨q, rfl⟩ := Int.eq_ofNat_of_zero_le g.1
    exact ⟨_, FormatDec_is k hk n h q (by omega)⟩
  · exact ⟨_, FormatDec_no k n s g⟩
theorem Day_both (k : Nat) (hk : 60000 ≤ k) (n : Int) : ∃ r, num_FormatDay.f k n = some r ∧ colonnaderef01_FormatDay.f k n = some r := by
  by_cases h : n < -719162 ∨ n > 2932896
  · exact ⟨_, FormatDay_no k (by omega) n h⟩
  · obtain ⟨y, m, d, hv, he⟩ := day_of n (by omega) (by omega)
    have hv' := hv
    obtain ⟨a1, _, a3, _, a5, _⟩ := hv'
    obtain ⟨y, rfl⟩ := Int.eq_ofNat_of_zero_le (show 0 ≤ y by omega)
    obtain ⟨m, rfl⟩ := Int.eq_ofNat_of_zero_le (show 0 ≤ m by omega)
    obtain ⟨d, rfl⟩ := Int.eq_ofNat_of_zero_le (show 0 ≤ d by omega)
    exact ⟨_, FormatDay_is k hk y m d n hv he⟩
theorem Show_same (k : Nat) (hk : 80000000 ≤ k) (a0 a1 a3 : Int) (a2 : Bool) (a4 : ByteArray) (h3 : In64 a3) (h4 : a4.size ≤ 67108864) :
    ∃ r, value_Show.f k a0 a1 a2 a3 a4 = some r ∧ colonnaderef02_Show.f k a0 a1 a2 a3 a4 = some r := by
  obtain ⟨j, rfl⟩ : ∃ q, k = q + 1 := ⟨k - 1, by omega⟩
  unfold value_Show.f colonnaderef02_Show.f
  rw [FormatInt_is a3 h3, Option.bind_some]
  cases a2 with
  | true => exact ⟨_, rfl, rfl⟩
  | false =>
    simp only [Bool.false_eq_true, if_false]
    rw [refFormatInt_is (j + 1) (by omega) a3 h3, Option.bind_some]
    by_cases k1 : a0 = 1
    · subst k1
      rw [if_pos rfl, if_pos rfl, value_Show.j0]
      by_cases z : a3 = 0
      · rw [if_pos (beq_iff_eq.2 z), if_pos z]; exact ⟨_, rfl, rfl⟩
      · rw [if_neg (fun e => z (beq_iff_eq.1 e)), if_pos rfl, if_neg z]; exact ⟨_, rfl, rfl⟩
    · rw [if_neg k1, if_neg k1, value_Show.j0, if_neg (by decide), if_neg k1]
      by_cases k4 : a0 = 4
      · subst k4
        rw [if_pos rfl, if_neg (by decide), if_neg (by decide), if_pos rfl, replaceS a4 h4, Option.bind_some]
        have e4 := B_of a4
        have hs := sizeS a4
        generalize a4.data.toList = l at e4 hs ⊢
        subst e4
        have hd := dbl_le l
        rw [B_size, if_pos (by omega), show (⟨#[39]⟩ : ByteArray) = B [39] from rfl, B_append, B_size, if_pos (by simp; omega), B_append]
        have hr := refShow_loop 4 a1 a3 false l (by omega) l.length (j + 1) 0 [39] (by omega) (by simp) (by omega)
        rw [show ((0 : Nat) : Int) = 0 from rfl, List.drop_zero] at hr
        refine ⟨_, rfl, ?_⟩
        rw [hr]
        simp
      · rw [if_neg k4]
        by_cases k3 : a0 = 3
        · subst k3
          rw [if_pos rfl, if_neg (by decide), if_pos rfl]
          obtain ⟨r, e1, e2⟩ := Dec_both (j + 1) (by omega) a3 a1 h3
          rw [e1, e2, FormatInt_is a3 h3]
          simp only [Option.bind_some]
          by_cases z : r.2 = 0
          · rw [if_pos z]; exact ⟨_, rfl, rfl⟩
          · rw [if_neg z]; exact ⟨_, rfl, rfl⟩
        · rw [if_neg k3]
          by_cases k5 : a0 = 5
          · subst k5
            rw [if_pos rfl, if_neg (by decide), if_neg (by decide), if_neg (by decide), if_pos rfl]
            obtain ⟨r, e1, e2⟩ := Day_both j (by omega) a3
            obtain ⟨r', e1', e2'⟩ := Day_both (j + 1) (by omega) a3
            have er := (at_rounds (num_FormatDay.mono a3) (Nat.le_succ j) e1).symm.trans e1'
            obtain rfl := Option.some.inj er
            rw [e1, e2', FormatInt_is a3 h3]
            simp only [Option.bind_some]
            by_cases z : r.2 = 0
            · rw [if_pos z]; exact ⟨_, rfl, rfl⟩
            · rw [if_neg z]; exact ⟨_, rfl, rfl⟩
          · rw [if_neg k5]
            by_cases k2 : a0 = 2
            · subst k2
              rw [if_pos rfl, if_pos rfl, if_pos rfl]; exact ⟨_, rfl, rfl⟩
            · rw [if_neg k2, if_neg k2, if_neg k3, if_neg k4, if_neg k5]; exact ⟨_, rfl, rfl⟩
end Go.Proofs.YtjpgjggbanpegaaGreatDoor.Pure
