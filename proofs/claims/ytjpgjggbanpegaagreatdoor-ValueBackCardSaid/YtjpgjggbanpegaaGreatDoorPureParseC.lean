/- Texts read as numbers, decimals and days: what the printed functions answer to what is written. -/
import Derived.Test.YtjpgjggbanpegaaGreatDoorPureWrites
import Derived.Test.YtjpgjggbanpegaaGreatDoorDec
import Derived.Test.YtjpgjggbanpegaaGreatDoorStrB
import Derived.Lib.SlTrimSet
import Derived.Lib.IndexBytes
import Derived.Lib.IndexMore
import Derived.Test.YtjpgjggbanpegaaGreatDoorD3
import Derived.Test.YtjpgjggbanpegaaGreatDoorD4
import Derived.Test.YtjpgjggbanpegaaGreatDoorD5
namespace Go.Proofs.YtjpgjggbanpegaaGreatDoor.Pure
open Go.RowKit Go.Proofs.YtjpgjggbanpegaaGreatDoor.D Go.Proofs.YtjpgjggbanpegaaGreatDoorW.PrintWords Go.Proofs.YtjpgjggbanpegaaGreatDoorW.PrintLast Go.Proofs.YtjpgjggbanpegaaGreatDoor.Str Go.Proofs.YtjpgjggbanpegaaGreatDoor.Cal
theorem bt_B (l : List UInt8) (i : Nat) (h : i < l.length) : bt (B l) (i : Int) = ((l.getD i 0).toNat : Int) := by
  unfold bt
  rw [dif_pos (show ((i : Int)).toNat < (B l).size by rw [B_size]; exact h), List.getD_eq_getElem?_getD, List.getElem?_eq_getElem h]
  rfl
theorem dg_mem (c : UInt8) (h : isDg c = true) : ([48, 49, 50, 51, 52, 53, 54, 55, 56, 57] : List UInt8).contains c = true := by
  obtain ⟨h1, h2⟩ := (isDg_iff c).1 h
  have hc : c = UInt8.ofNat c.toNat := UInt8.ofNat_toNat.symm
  have hn : c.toNat = 48 ∨ c.toNat = 49 ∨ c.toNat = 50 ∨ c.toNat = 51 ∨ c.toNat = 52 ∨ c.toNat = 53 ∨ c.toNat = 54 ∨ c.toNat = 55 ∨ c.toNat = 56 ∨ c.toNat = 57 := by omega
  rcases hn with e | e | e | e | e | e | e | e | e | e <;> (rw [hc, e]; decide)
theorem dw_nil (p : UInt8 → Bool) : ∀ l : List UInt8, (∀ c ∈ l, p c = true) → l.dropWhile p = []
  | [], _ => rfl
  | c :: l, h => by rw [List.dropWhile_cons, if_pos (h c (by simp))]; exact dw_nil p l fun x hx => h x (List.mem_cons_of_mem _ hx)
theorem digits_yes (l : List UInt8) (hl : l.length ≤ 1000000) (h : allD l = true) (hne : l ≠ []) : num_digits.f (B l) = some true := by
  unfold num_digits.f
  rw [B_toList, if_neg hne]
  unfold strings_Trim.f
  rw [if_pos rfl, if_pos (by rw [B_size]; omega), Option.bind_some, B_data]
  have e : Lib.trimS l [48, 49, 50, 51, 52, 53, 54, 55, 56, 57] = [] := by
    unfold Lib.trimS Lib.trimRightS
    have e1 : l.reverse.dropWhile (([48, 49, 50, 51, 52, 53, 54, 55, 56, 57] : List UInt8).contains ·) = [] :=
      dw_nil _ _ fun c hc => dg_mem c (List.all_eq_true.1 h c (List.mem_reverse.1 hc))
    rw [e1]
    rfl
  rw [e]
  show some ((B []).toList == ([] : List UInt8)) = some true
  rw [B_toList]
  rfl
theorem tp_yes (r : List UInt8) : strings_TrimPrefix.f (B (45 :: r)) (⟨#[45]⟩ : ByteArray) = some (B r) := by
  have z : ((⟨#[45]⟩ : ByteArray).size : Int) = 1 := rfl
  have s1 : ((B (45 :: r)).size : Int) = (r.length : Int) + 1 := by rw [B_size]; simp
  unfold strings_TrimPrefix.f stringslite_TrimPrefix.f stringslite_HasPrefix.f
  simp only [z, s1]
  have g1 : (r.length : Int) + 1 ≥ 1 := by omega
  have g2 : (1 : Int) ≤ (r.length : Int) + 1 := by omega
  rw [if_pos g1, if_pos (by omega), if_pos g2, B_extract, B_extract, B_toList]
  have t : (⟨#[45]⟩ : ByteArray).toList = [45] := B_toList [45]
  rw [t]
  simp only [Option.bind_some]
  rw [if_pos (by simp), if_pos (by omega), if_pos g2]
  simp [B_size]
theorem tp_no (s : List UInt8) (h : s.head? ≠ some 45) : strings_TrimPrefix.f (B s) (⟨#[45]⟩ : ByteArray) = some (B s) := by
  have z : ((⟨#[45]⟩ : ByteArray).size : Int) = 1 := rfl
  unfold strings_TrimPrefix.f stringslite_TrimPrefix.f stringslite_HasPrefix.f
  simp only [z, B_size]
  cases s with
  | nil => simp
  | cons d r =>
    simp only [List.length_cons]
    have g1 : ((r.length + 1 : Nat) : Int) ≥ 1 := by omega
    have g2 : (1 : Int) ≤ ((r.length + 1 : Nat) : Int) := by omega
    rw [if_pos g1, if_pos (by omega), if_pos g2, B_extract, B_toList]
    have t : (⟨#[45]⟩ : ByteArray).toList = [45] := B_toList [45]
    have hd : ¬ d = 45 := fun e => h (by rw [e]; rfl)
    rw [t]
    simp only [Option.bind_some]
    rw [if_neg (by simp [hd])]
    rfl
/-- a sign, if there is one -/
def sg (b : Bool) : List UInt8 := if b = true then [45] else []
theorem tp_sg (b : Bool) (x : List UInt8) (h : x.head? ≠ some 45) : strings_TrimPrefix.f (B (sg b ++ x)) (⟨#[45]⟩ : ByteArray) = some (B x) := by
  cases b with
  | true => exact tp_yes x
  | false => exact tp_no x h
theorem dg_head (l r : List UInt8) (h : allD l = true) (hne : l ≠ []) : (l ++ r).head? ≠ some 45 := by
  cases l with
  | nil => exact absurd rfl hne
  | cons c q =>
    rw [allD_cons, Bool.and_eq_true] at h
    intro e
    have e := Option.some.inj e
    rw [e] at h
    exact absurd h.1 (by decide)
theorem ParseInt_itoa (n : Int) (h : In64 n) : num_ParseInt.f (B (Lib.itoa n)) = some (n, 0) := by
  have hb := digits_bd n h
  obtain ⟨h1, h2⟩ := h
  obtain ⟨d1, d2, d3⟩ := dec_digits n.natAbs
  unfold num_ParseInt.f
  by_cases c : n < 0
  · rw [itoa_neg n c, tp_yes, Option.bind_some, digits_yes _ (by omega) d1 d3, Option.bind_some, if_pos rfl, if_pos (by rw [B_size]; simp; omega), B_data, Lib.parseIntB_64, atoi_minus _ d1 d3, d2, if_pos (by omega)]
    show some (-((n.natAbs : Nat) : Int), (0 : Int)) = some (n, 0)
    rw [show -((n.natAbs : Nat) : Int) = n from by omega]
  · have hh := dg_head (Lib.decDigits n.natAbs) [] d1 d3
    rw [List.append_nil] at hh
    rw [itoa_pos n c, tp_no _ hh, Option.bind_some, digits_yes _ (by omega) d1 d3, Option.bind_some, if_pos rfl, if_pos (by rw [B_size]; omega), B_data, Lib.parseIntB_64, atoi_digits _ d1 d3, d2, if_pos (by omega)]
    show some (((n.natAbs : Nat) : Int), (0 : Int)) = some (n, 0)
    rw [show ((n.natAbs : Nat) : Int) = n from by omega]
theorem P_dig (n m : Nat) (h : 1 ≤ m) : allD (P n m) = true ∧ val 0 (P n m) = n := by
  obtain ⟨d1, d2, d3⟩ := dec_digits n
  rw [P_pad n m h]
  exact ⟨by rw [allD_append, allD_replicate, d1]; rfl, by rw [val_replicate, d2]⟩
theorem ib_none (m : UInt8) : ∀ l : List UInt8, (∀ c ∈ l, c ≠ m) → Lib.indexByte l m = -1
  | [], _ => rfl
  | c :: l, h => by
    have e := ib_none m l fun x hx => h x (List.mem_cons_of_mem _ hx)
    unfold Lib.indexByte
    rw [if_neg (by simpa using h c (by simp)), e]
    rfl
theorem ib_at (m : UInt8) (r : List UInt8) : ∀ l : List UInt8, (∀ c ∈ l, c ≠ m) → Lib.indexByte (l ++ m :: r) m = (l.length : Int)
  | [], _ => by
    show Lib.indexByte (m :: r) m = 0
    unfold Lib.indexByte
    rw [if_pos (by simp)]
  | c :: l, h => by
    have e := ib_at m r l fun x hx => h x (List.mem_cons_of_mem _ hx)
    show Lib.indexByte (c :: (l ++ m :: r)) m = _
    unfold Lib.indexByte
    rw [if_neg (by simpa using h c (by simp)), e, if_neg (by first | (simp; done) | (simp; omega))]
    simp
theorem dg_46 (l : List UInt8) (h : allD l = true) : ∀ c ∈ l, c ≠ 46 := by
  intro c hc e
  have := List.all_eq_true.1 h c hc
  rw [e] at this
  exact absurd this (by decide)
theorem w64s (a : Nat) (h : a ≤ 1000000000000000000) : wrap64 ((a : Int) + 1) = ((a + 1 : Nat) : Int) := by rw [wr (by omega) (by omega)]; omega
theorem m46 : (⟨#[46]⟩ : ByteArray).data.toList = [46] := rfl
theorem cutB_0 (t : List UInt8) (h : ∀ c ∈ t, c ≠ 46) : strings_Cut.f (B t) (⟨#[46]⟩ : ByteArray) = some (B t, B [], false) := by
  unfold strings_Cut.f stringslite_Cut.f stringslite_Index.f
  rw [m46, B_data]
  simp only []
  rw [ib_none 46 t h, Option.bind_some, if_neg (by decide), Option.bind_some]
  rfl
theorem cutB_1 (p q : List UInt8) (h : ∀ c ∈ p, c ≠ 46) (hl : (p ++ 46 :: q).length ≤ 200000000000000) : strings_Cut.f (B (p ++ 46 :: q)) (⟨#[46]⟩ : ByteArray) = some (B p, B q, true) := by
  have z : ((⟨#[46]⟩ : ByteArray).size : Int) = 1 := rfl
  simp only [List.length_append, List.length_cons] at hl
  unfold strings_Cut.f stringslite_Cut.f stringslite_Index.f
  rw [m46, B_data]
  simp only []
  rw [ib_at 46 q p h, Option.bind_some, z, w64s p.length (by omega), B_size]
  simp only [List.length_append, List.length_cons]
  rw [if_pos (by omega), if_pos (by omega), if_pos (by omega), if_pos (by omega), if_pos (by omega), Option.bind_some, B_extract, B_extract, Int.toNat_natCast, Int.toNat_natCast]
  have e1 : ((p ++ 46 :: q).take p.length).drop 0 = p := by simp
  have e2 : ((p ++ 46 :: q).take (p.length + (q.length + 1))).drop (p.length + 1) = q := by
    rw [List.take_of_length_le (by simp), show p ++ 46 :: q = (p ++ [46]) ++ q from by simp, show p.length + 1 = (p ++ [46]).length from by simp, List.drop_left]
  rw [e1, e2]
theorem fin_is (b : Bool) (c : UInt8) (x wh pt : List UInt8) (m : Nat) (hw : allD (wh ++ pt) = true) (hne : wh ++ pt ≠ []) (hl : (wh ++ pt).length ≤ 1000) (hv : val 0 (wh ++ pt) = m) (hm : m ≤ 999999999999999999) (hc : isDg c = true) :
    num_ParseDec.fin (B (sg b ++ c :: x)) (B wh) (B pt) = some (if b = true then -(m : Int) else (m : Int), (pt.length : Int), 0) := by
  have hf : num_Fits.f (m : Int) = some true := by
    unfold num_Fits.f
    rw [if_pos (by omega), decide_eq_true (by omega)]
  have hs : 0 < (B (sg b ++ c :: x)).size := by rw [B_size, List.length_append, List.length_cons]; omega
  rw [List.length_append] at hl
  unfold num_ParseDec.fin
  rw [if_pos (by rw [B_size, B_size]; omega), B_append, B_data, Lib.parseIntB_64, atoi_digits _ hw hne, hv, if_pos (by omega)]
  simp only []
  rw [hf, Option.bind_some, if_pos rfl, if_pos hs, B_size]
  cases b with
  | true =>
    have e : bt (B (sg true ++ c :: x)) 0 = 45 := bt_B (45 :: c :: x) 0 (by simp)
    rw [if_pos e, if_pos rfl, wr (by omega) (by omega)]
  | false =>
    have e : bt (B (sg false ++ c :: x)) 0 = (c.toNat : Int) := bt_B (c :: x) 0 (by simp)
    have := (isDg_iff c).1 hc
    rw [if_neg (by rw [e]; omega), if_neg (by simp)]
theorem ParseDec_is (n : Int) (hn : -999999999999999999 ≤ n ∧ n ≤ 999999999999999999) (s : Nat) (hs : s ≤ 18) :
    num_ParseDec.f (num_FormatDec.sgn (decide (n < 0)) (num_FormatDec.pnt s (B (P n.natAbs (s + 1))))) = some (n, (s : Int), 0) := by
  obtain ⟨d1, d2⟩ := P_dig n.natAbs (s + 1) (by omega)
  obtain ⟨l1, l2⟩ := P_bd n.natAbs (s + 1) (by omega) (by omega) (by omega)
  have hres : (if (decide (n < 0)) = true then -((n.natAbs : Nat) : Int) else ((n.natAbs : Nat) : Int)) = n := by
    by_cases c : n < 0
    · rw [decide_eq_true c, if_pos rfl]; omega
    · rw [decide_eq_false c, if_neg (by simp)]; omega
  generalize hD : P n.natAbs (s + 1) = D at d1 d2 l1 l2 ⊢
  have hsg : ∀ x : List UInt8, num_FormatDec.sgn (decide (n < 0)) (B x) = B (sg (decide (n < 0)) ++ x) := by
    intro x
    unfold num_FormatDec.sgn sg
    split
    · rw [show (⟨#[45]⟩ : ByteArray) = B [45] from rfl, B_append]
    · rfl
  generalize decide (n < 0) = b at hres hsg ⊢
  obtain ⟨c, q, hcq⟩ : ∃ c q, D = c :: q := by
    cases D with
    | nil => simp at l1
    | cons c q => exact ⟨c, q, rfl⟩
  have hdc : isDg c = true := by
    rw [hcq, allD_cons, Bool.and_eq_true] at d1
    exact d1.1
  rcases Nat.eq_zero_or_pos s with h0 | h0
  · subst h0
    have ep : num_FormatDec.pnt 0 (B D) = B D := by unfold num_FormatDec.pnt; rw [if_neg (by omega)]
    have hne : D ≠ [] := by rw [hcq]; simp
    have hh := dg_head D [] d1 hne
    rw [List.append_nil] at hh
    rw [ep, hsg]
    unfold num_ParseDec.f
    rw [tp_sg b D hh, Option.bind_some]
    rw [cutB_0 D (dg_46 D d1), Option.bind_some]
    simp only []
    rw [digits_yes D (by omega) d1 hne, Option.bind_some, if_pos rfl, if_neg (by simp), if_pos (by rw [B_size]; simp)]
    have hfin := fin_is b c q D [] n.natAbs (by rw [List.append_nil]; exact d1) (by rw [List.append_nil]; exact hne) (by rw [List.append_nil]; exact l2) (by rw [List.append_nil]; exact d2) (by omega) hdc
    rw [← hcq, hres] at hfin
    exact hfin
  · obtain ⟨m, hm⟩ : ∃ m, m + s = D.length := ⟨D.length - s, by omega⟩
    have hsplit : D = D.take m ++ D.drop m := (List.take_append_drop m D).symm
    have lt : (D.take m).length = m := by rw [List.length_take]; omega
    have ld : (D.drop m).length = s := by rw [List.length_drop]; omega
    have ep : num_FormatDec.pnt s (B D) = B (D.take m ++ 46 :: D.drop m) := by
      unfold num_FormatDec.pnt
      rw [if_pos h0, B_size, show D.length - s = m from by omega, B_extract, B_extract, show (⟨#[46]⟩ : ByteArray) = B [46] from rfl, B_append, B_append, List.take_of_length_le (Nat.le_refl _)]
      congr 1
      simp
    rw [hsplit, allD_append, Bool.and_eq_true] at d1
    have hne1 : D.take m ≠ [] := fun z => by rw [z] at lt; simp at lt; omega
    have hne2 : D.drop m ≠ [] := fun z => by rw [z] at ld; simp at ld; omega
    have hh := dg_head (D.take m) (46 :: D.drop m) d1.1 hne1
    rw [ep, hsg]
    unfold num_ParseDec.f
    rw [tp_sg b _ hh, Option.bind_some]
    rw [cutB_1 _ _ (dg_46 _ d1.1) (by simp only [List.length_append, List.length_cons]; omega), Option.bind_some]
    simp only []
    rw [digits_yes _ (by omega) d1.1 hne1, Option.bind_some, if_pos rfl, if_pos trivial, digits_yes _ (by omega) d1.2 hne2, Option.bind_some, if_pos rfl, if_pos (by rw [B_size, ld]; exact hs)]
    obtain ⟨m', rfl⟩ : ∃ z, m = z + 1 := ⟨m - 1, by omega⟩
    have hfin := fin_is b c (q.take m' ++ 46 :: D.drop (m' + 1)) (D.take (m' + 1)) (D.drop (m' + 1)) n.natAbs (by rw [allD_append, d1.1, d1.2]; rfl) (by rw [← hsplit, hcq]; simp) (by rw [← hsplit]; exact l2) (by rw [← hsplit]; exact d2) (by omega) hdc
    rw [hres, ld] at hfin
    rw [← hfin]
    congr 2
    rw [hcq]
    simp
theorem P_exact (n m k : Nat) (h : n < 10 ^ (k + 1)) (hm : m = k + 1) : (P n m).length = m := by
  have := P_length n m (by omega)
  have := nDigits_le n k h
  omega
theorem len4 (l : List UInt8) (h : l.length = 4) : ∃ a b c d, l = [a, b, c, d] := by
  match l, h with
  | [a, b, c, d], _ => exact ⟨a, b, c, d, rfl⟩
theorem len2 (l : List UInt8) (h : l.length = 2) : ∃ a b, l = [a, b] := by
  match l, h with
  | [a, b], _ => exact ⟨a, b, rfl⟩
theorem day_atoi (l : List UInt8) (n : Nat) (h : allD l = true) (hv : val 0 l = n) (hne : l ≠ []) (hn : n ≤ 10000) : num_ParseDay.atoi (B l) = some (n : Int) := by
  unfold num_ParseDay.atoi
  rw [B_data, atoi_digits l h hne, hv, if_pos (by omega)]
theorem ParseDay_is (k : Nat) (hk : 20 ≤ k) (y m d : Nat) (h : valid y m d) : num_ParseDay.f k (B (dayText y m d)) = some (num y m d, 0) ∧ (B (dayText y m d)).size = 10 := by
  have hday := (Day_is k hk y m d h).1
  obtain ⟨h1, h2, h3, h4, h5, h6⟩ := h
  have hl := mlen_bd (y : Int) (m : Int)
  obtain ⟨y1, y2⟩ := P_dig y 4 (by omega)
  obtain ⟨m1, m2⟩ := P_dig m 2 (by omega)
  obtain ⟨d1, d2⟩ := P_dig d 2 (by omega)
  obtain ⟨a1, a2, a3, a4, ey⟩ := len4 _ (P_exact y 4 3 (by omega) rfl)
  obtain ⟨b1, b2, em⟩ := len2 _ (P_exact m 2 1 (by omega) rfl)
  obtain ⟨c1, c2, ed⟩ := len2 _ (P_exact d 2 1 (by omega) rfl)
  rw [ey] at y1 y2
  rw [em] at m1 m2
  rw [ed] at d1 d2
  have et : dayText y m d = [a1, a2, a3, a4, 45, b1, b2, 45, c1, c2] := by
    unfold dayText
    rw [ey, em, ed]
    rfl
  rw [et]
  refine ⟨?_, by rw [B_size]; rfl⟩
  have e4 : bt (B [a1, a2, a3, a4, 45, b1, b2, 45, c1, c2]) 4 = 45 := bt_B _ 4 (by simp)
  have e7 : bt (B [a1, a2, a3, a4, 45, b1, b2, 45, c1, c2]) 7 = 45 := bt_B _ 7 (by simp)
  have x1 : (B [a1, a2, a3, a4, 45, b1, b2, 45, c1, c2]).extract 0 4 = B [a1, a2, a3, a4] := by rw [B_extract]; rfl
  have x2 : (B [a1, a2, a3, a4, 45, b1, b2, 45, c1, c2]).extract 5 7 = B [b1, b2] := by rw [B_extract]; rfl
  have x3 : (B [a1, a2, a3, a4, 45, b1, b2, 45, c1, c2]).extract 8 10 = B [c1, c2] := by rw [B_extract]; rfl
  unfold num_ParseDay.f num_ParseDay.day
  rw [if_pos (by rw [B_size]; rfl), if_pos e4, if_pos e7, x1, x2, x3, B_append, B_append, digits_yes _ (by simp) (by rw [allD_append, allD_append, y1, m1, d1]; rfl) (by simp), Option.bind_some, if_pos rfl,
    day_atoi _ y y1 y2 (by simp) (by omega), day_atoi _ m m1 m2 (by simp) (by omega), day_atoi _ d d1 d2 (by simp) (by omega), Option.bind_some, Option.bind_some, Option.bind_some]
  exact hday
end Go.Proofs.YtjpgjggbanpegaaGreatDoor.Pure
