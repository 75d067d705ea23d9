/- Numbers, decimals and days as texts: num and the reference write the same. -/
import Derived.Test.YtjpgjggbanpegaaDoorStr
import Derived.Test.YtjpgjggbanpegaaDoorPureScale
import Derived.Test.YtjpgjggbanpegaaDoorPureDay
import Derived.Test.YtjpgjggbanpegaaDoorV4
namespace Go.Proofs.YtjpgjggbanpegaaDoor.Pure
open Go.RowKit Go.Proofs.YtjpgjggbanpegaaDoor.V Go.Proofs.YtjpgjggbanpegaaDoorW.PrintWords Go.Proofs.YtjpgjggbanpegaaDoorW.PrintLast Go.Proofs.YtjpgjggbanpegaaDoor.Str Go.Proofs.YtjpgjggbanpegaaDoor.Cal

theorem P_bd (n m : Nat) (hn : n < 18446744073709551616) (h1 : 1 ≤ m) (h2 : m ≤ 1000) : m ≤ (P n m).length ∧ (P n m).length ≤ 1000 := by
  have hl := P_length n m h1
  have hd := nDigits_le n 19 (by omega)
  omega

theorem pad_is (s : List UInt8) (m : Nat) (hs : s.length ≤ 1000) (hm : m ≤ 1000) : num_pad.f (B s) (m : Int) = some (B (List.replicate (m - s.length) 48 ++ s)) := by
  unfold num_pad.f
  have e1 : mx 0 (wrap64 ((m : Int) - ((B s).size : Int))) = ((m - s.length : Nat) : Int) := by
    rw [B_size, wr (by omega) (by omega)]; unfold mx; split <;> omega
  rw [e1]
  unfold strings_Repeat.f
  rw [if_pos (by omega), Int.toNat_natCast]
  have e2 : (⟨#[48]⟩ : ByteArray).size * (m - s.length) ≤ 140737488355328 := by
    show 1 * (m - s.length) ≤ 140737488355328
    omega
  rw [if_pos ⟨by omega, e2⟩]
  simp only [Option.bind_some]
  rw [repeat48]
  rw [show (⟨(List.replicate (m - s.length) 48).toArray⟩ : ByteArray) = B (List.replicate (m - s.length) 48) from rfl, B_append]
  rw [if_pos (by rw [B_size, B_size, List.length_replicate]; omega)]

theorem cut_yes (r : List UInt8) : strings_CutPrefix.f (B (45 :: r)) (⟨#[45]⟩ : ByteArray) = some (B r, true) := by
  have z : ((⟨#[45]⟩ : ByteArray).size : Int) = 1 := rfl
  have s1 : ((B (45 :: r)).size : Int) = (r.length : Int) + 1 := by rw [B_size]; simp
  unfold strings_CutPrefix.f stringslite_CutPrefix.f stringslite_HasPrefix.f
  simp only [z, s1]
  have g1 : (r.length : Int) + 1 ≥ 1 := by omega
  have g2 : (1 : Int) ≤ (r.length : Int) + 1 := by omega
  rw [if_pos g1, if_pos (by omega), if_pos g2, B_extract, B_extract, B_toList]
  have t : (⟨#[45]⟩ : ByteArray).toList = [45] := B_toList [45]
  rw [t]
  simp only [Option.bind_some]
  rw [if_pos (by simp), if_pos (by omega), if_pos g2]
  simp [B_size]
theorem cut_no (s : List UInt8) (h : s.head? ≠ some 45) : strings_CutPrefix.f (B s) (⟨#[45]⟩ : ByteArray) = some (B s, false) := by
  have z : ((⟨#[45]⟩ : ByteArray).size : Int) = 1 := rfl
  unfold strings_CutPrefix.f stringslite_CutPrefix.f stringslite_HasPrefix.f
  simp only [z, B_size]
  cases s with
  | nil => simp
  | cons d r =>
    simp only [List.length_cons]
    have g1 : ((r.length + 1 : Nat) : Int) ≥ 1 := by omega
    have g2 : (1 : Int) ≤ ((r.length + 1 : Nat) : Int) := by omega
    rw [if_pos g1, if_pos (by omega), if_pos g2, B_extract, B_toList]
    have t : (⟨#[45]⟩ : ByteArray).toList = [45] := B_toList [45]
    have hd : ¬ d = 45 := fun e => h (by rw [e]; rfl)
    rw [t]
    simp only [Option.bind_some]
    rw [if_neg (by simp [hd])]
    rfl

/-- a number's digits, without its sign -/
theorem itoa_neg (n : Int) (h : n < 0) : Lib.itoa n = 45 :: Lib.decDigits n.natAbs := by unfold Lib.itoa; rw [if_pos h]
theorem itoa_pos (n : Int) (h : ¬ n < 0) : Lib.itoa n = Lib.decDigits n.natAbs := by unfold Lib.itoa; rw [if_neg h]; congr 1; omega
theorem FormatInt_is (n : Int) (h : In64 n) : num_FormatInt.f n = some (B (Lib.itoa n)) := by
  obtain ⟨h1, h2⟩ := h
  unfold num_FormatInt.f
  rw [if_pos h1, if_pos h2]; rfl
theorem Itoa_is (n : Int) (h : In64 n) : strconv_Itoa.f n = some (B (Lib.itoa n)) := by
  obtain ⟨h1, h2⟩ := h
  unfold strconv_Itoa.f
  rw [if_pos h1, if_pos h2]; rfl
/-- what both write of a decimal -/
theorem cut_itoa (n : Int) : strings_CutPrefix.f (B (Lib.itoa n)) (⟨#[45]⟩ : ByteArray) = some (B (Lib.decDigits n.natAbs), decide (n < 0)) := by
  by_cases c : n < 0
  · rw [itoa_neg n c, cut_yes, decide_eq_true c]
  · obtain ⟨d, r, e, hd⟩ := digits_head n.natAbs
    rw [itoa_pos n c, cut_no, decide_eq_false c]
    rw [e]
    exact fun g => hd (Option.some.inj g)
theorem digits_bd (n : Int) (h : In64 n) : (Lib.decDigits n.natAbs).length ≤ 1000 := by
  have hdl := decDigits_length n.natAbs
  have hdd := nDigits_le n.natAbs 19 (by obtain ⟨h1, h2⟩ := h; omega)
  omega
theorem wide_bd (n : Int) (h : In64 n) (s : Nat) (hs : s ≤ 18) : (B (P n.natAbs (s + 1))).size ≤ 1000000 ∧ s ≤ (B (P n.natAbs (s + 1))).size := by
  have hb := P_bd n.natAbs (s + 1) (by obtain ⟨h1, h2⟩ := h; omega) (by omega) (by omega)
  rw [B_size]
  omega
theorem wrap_s (s : Nat) (hs : s ≤ 18) : wrap64 ((s : Int) + 1) = ((s + 1 : Nat) : Int) := by rw [wr (by omega) (by omega)]; omega
theorem FormatDec_num (n : Int) (h : In64 n) (s : Nat) (hs : s ≤ 18) : num_FormatDec.f n (s : Int) = some (num_FormatDec.sgn (decide (n < 0)) (num_FormatDec.pnt s (B (P n.natAbs (s + 1)))), 0) := by
  unfold num_FormatDec.f
  have c : (0 : Int) ≤ (s : Int) ∧ (s : Int) ≤ 18 := by omega
  rw [scale_is, decide_eq_true c, Option.bind_some, if_pos rfl, if_pos c.1, if_pos (show (s : Int) ≤ 1000 by omega), FormatInt_is n h, Option.bind_some, cut_itoa, Option.bind_some, wrap_s s hs]
  have pd := pad_is (Lib.decDigits n.natAbs) (s + 1) (digits_bd n h) (by omega)
  rw [← P_pad n.natAbs (s + 1) (by omega)] at pd
  have wb := wide_bd n h s hs
  show (num_pad.f (B (Lib.decDigits n.natAbs)) ((s + 1 : Nat) : Int)).bind _ = _
  rw [pd, Option.bind_some, Int.toNat_natCast, if_pos wb]
/-- what both write of a day -/
def dayText (y m d : Nat) : List UInt8 := P y 4 ++ [45] ++ P m 2 ++ [45] ++ P d 2
end Go.Proofs.YtjpgjggbanpegaaDoor.Pure
