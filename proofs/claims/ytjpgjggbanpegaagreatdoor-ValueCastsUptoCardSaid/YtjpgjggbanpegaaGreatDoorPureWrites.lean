/- Numbers, decimals and days as texts: num and the reference write the same. -/
import Derived.Test.YtjpgjggbanpegaaGreatDoorStr
import Derived.Test.YtjpgjggbanpegaaGreatDoorPureScale
import Derived.Test.YtjpgjggbanpegaaGreatDoorPureDay
import Derived.Test.YtjpgjggbanpegaaGreatDoorE3
import Derived.Test.YtjpgjggbanpegaaGreatDoorE7
namespace Go.Proofs.YtjpgjggbanpegaaGreatDoor.Pure
open Go.RowKit Go.Proofs.YtjpgjggbanpegaaGreatDoor.E Go.Proofs.YtjpgjggbanpegaaGreatDoorW.PrintWords Go.Proofs.YtjpgjggbanpegaaGreatDoorW.PrintLast Go.Proofs.YtjpgjggbanpegaaGreatDoor.Str Go.Proofs.YtjpgjggbanpegaaGreatDoor.Cal

theorem plain_step (k n m : Nat) (l : List UInt8) (hn : n < 18446744073709551616) (hl : l.length ≤ 10000) (h : 0 < n ∨ l.length < m) :
    colonnaderef01_plain.l0 (k + 1) (n : Int) (m : Int) (B l) = colonnaderef01_plain.l0 k ((n / 10 : Nat) : Int) (m : Int) (B (UInt8.ofNat (48 + n % 10) :: l)) := by
  have e1 : Int.tmod (n : Int) 10 = ((n % 10 : Nat) : Int) := by rw [Int.tmod_eq_emod_of_nonneg (by omega)]; omega
  have e2 : Int.tdiv (n : Int) 10 = ((n / 10 : Nat) : Int) := by rw [Int.tdiv_eq_ediv_of_nonneg (by omega)]; omega
  have e3 : IntKind.u64.wrap (48 + ((n % 10 : Nat) : Int)) % 256 = ((48 + n % 10 : Nat) : Int) := by rw [IntKind.wrap_u64]; omega
  have e4 : IntKind.u64.wrap ((n / 10 : Nat) : Int) = ((n / 10 : Nat) : Int) := by rw [IntKind.wrap_u64]; omega
  have e5 : strOfNums [((48 + n % 10 : Nat) : Int)] = B [UInt8.ofNat (48 + n % 10)] := by
    rw [B_nums]
    show B [UInt8.ofNat (((48 + n % 10 : Nat) : Int)).toNat] = _
    rw [Int.toNat_natCast]
  have e6 : (B [UInt8.ofNat (48 + n % 10)]).size + (B l).size ≤ 9223372036854775807 := by rw [B_size, B_size]; simp; omega
  simp only [colonnaderef01_plain.l0, e1, e2, e3, e4, Option.bind_some, e5, B_append, List.singleton_append]
  rw [if_pos e6]
  by_cases c : (n : Int) > 0
  · rw [if_pos c]
  · rw [if_neg c, if_pos (by rw [B_size]; omega)]
theorem plain_end (k m : Nat) (l : List UInt8) (h : m ≤ l.length) : colonnaderef01_plain.l0 (k + 1) 0 (m : Int) (B l) = some (B l) := by
  simp only [colonnaderef01_plain.l0]
  rw [if_neg (by omega), if_neg (by rw [B_size]; omega)]
theorem plain_loop : ∀ (d k n m : Nat) (l : List UInt8), n < 18446744073709551616 → l.length + d ≤ 10000 → (P n (m - l.length)).length = d → d < k → colonnaderef01_plain.l0 k (n : Int) (m : Int) (B l) = some (B (P n (m - l.length) ++ l)) := by
  intro d
  induction d with
  | zero =>
    intro k n m l hn hl hd hk
    obtain ⟨k, rfl⟩ : ∃ j, k = j + 1 := ⟨k - 1, by omega⟩
    have e := List.length_eq_zero_iff.1 hd
    rw [e]
    by_cases h : 0 < n ∨ 0 < m - l.length
    · rw [P_step n _ h] at e; simp at e
    · have : n = 0 := by omega
      subst this
      exact plain_end k m l (by omega)
  | succ d ih =>
    intro k n m l hn hl hd hk
    obtain ⟨k, rfl⟩ : ∃ j, k = j + 1 := ⟨k - 1, by omega⟩
    have h : 0 < n ∨ 0 < m - l.length := by
      rcases Nat.eq_zero_or_pos n with h | h
      · right
        subst h
        rcases Nat.eq_zero_or_pos (m - l.length) with g | g
        · rw [g] at hd; simp [P] at hd
        · exact g
      · exact .inl h
    rw [P_step n _ h] at hd ⊢
    rw [plain_step k n m l hn (by omega) (by omega)]
    have e : m - (UInt8.ofNat (48 + n % 10) :: l).length = m - l.length - 1 := by simp only [List.length_cons]; omega
    rw [ih k (n / 10) m _ (by omega) (by simp only [List.length_cons]; omega) (by rw [e]; simp at hd; omega) (by omega), e]
    simp
theorem plain_is (k : Nat) (hk : 2000 ≤ k) (n m : Nat) (hn : n < 18446744073709551616) (h1 : 1 ≤ m) (h2 : m ≤ 1000) : colonnaderef01_plain.f k (n : Int) (m : Int) = some (B (P n m)) := by
  have hl := P_length n m h1
  have hd := nDigits_le n 19 (by omega)
  have := plain_loop (P n m).length k n m [] hn (by simp; omega) (by simp) (by omega)
  simpa [B, colonnaderef01_plain.f] using this

theorem P_bd (n m : Nat) (hn : n < 18446744073709551616) (h1 : 1 ≤ m) (h2 : m ≤ 1000) : m ≤ (P n m).length ∧ (P n m).length ≤ 1000 := by
  have hl := P_length n m h1
  have hd := nDigits_le n 19 (by omega)
  omega

theorem pad_is (s : List UInt8) (m : Nat) (hs : s.length ≤ 1000) (hm : m ≤ 1000) : num_pad.f (B s) (m : Int) = some (B (List.replicate (m - s.length) 48 ++ s)) := by
  unfold num_pad.f
  have e1 : mx 0 (wrap64 ((m : Int) - ((B s).size : Int))) = ((m - s.length : Nat) : Int) := by
    rw [B_size, wr (by omega) (by omega)]; unfold mx; split <;> omega
  rw [e1]
  unfold strings_Repeat.f
  rw [if_pos (by omega), Int.toNat_natCast]
  have e2 : (⟨#[48]⟩ : ByteArray).size * (m - s.length) ≤ 140737488355328 := by
    show 1 * (m - s.length) ≤ 140737488355328
    omega
  rw [if_pos ⟨by omega, e2⟩]
  simp only [Option.bind_some]
  rw [repeat48]
  rw [show (⟨(List.replicate (m - s.length) 48).toArray⟩ : ByteArray) = B (List.replicate (m - s.length) 48) from rfl, B_append]
  rw [if_pos (by rw [B_size, B_size, List.length_replicate]; omega)]

theorem cut_yes (r : List UInt8) : strings_CutPrefix.f (B (45 :: r)) (⟨#[45]⟩ : ByteArray) = some (B r, true) := by
  have z : ((⟨#[45]⟩ : ByteArray).size : Int) = 1 := rfl
  have s1 : ((B (45 :: r)).size : Int) = (r.length : Int) + 1 := by rw [B_size]; simp
  unfold strings_CutPrefix.f stringslite_CutPrefix.f stringslite_HasPrefix.f
  simp only [z, s1]
  have g1 : (r.length : Int) + 1 ≥ 1 := by omega
  have g2 : (1 : Int) ≤ (r.length : Int) + 1 := by omega
  rw [if_pos g1, if_pos (by omega), if_pos g2, B_extract, B_extract, B_toList]
  have t : (⟨#[45]⟩ : ByteArray).toList = [45] := B_toList [45]
  rw [t]
  simp only [Option.bind_some]
  rw [if_pos (by simp), if_pos (by omega), if_pos g2]
  simp [B_size]
theorem cut_no (s : List UInt8) (h : s.head? ≠ some 45) : strings_CutPrefix.f (B s) (⟨#[45]⟩ : ByteArray) = some (B s, false) := by
  have z : ((⟨#[45]⟩ : ByteArray).size : Int) = 1 := rfl
  unfold strings_CutPrefix.f stringslite_CutPrefix.f stringslite_HasPrefix.f
  simp only [z, B_size]
  cases s with
  | nil => simp
  | cons d r =>
    simp only [List.length_cons]
    have g1 : ((r.length + 1 : Nat) : Int) ≥ 1 := by omega
    have g2 : (1 : Int) ≤ ((r.length + 1 : Nat) : Int) := by omega
    rw [if_pos g1, if_pos (by omega), if_pos g2, B_extract, B_toList]
    have t : (⟨#[45]⟩ : ByteArray).toList = [45] := B_toList [45]
    have hd : ¬ d = 45 := fun e => h (by rw [e]; rfl)
    rw [t]
    simp only [Option.bind_some]
    rw [if_neg (by simp [hd])]
    rfl

/-- a number's digits, without its sign -/
theorem itoa_neg (n : Int) (h : n < 0) : Lib.itoa n = 45 :: Lib.decDigits n.natAbs := by unfold Lib.itoa; rw [if_pos h]
theorem itoa_pos (n : Int) (h : ¬ n < 0) : Lib.itoa n = Lib.decDigits n.natAbs := by unfold Lib.itoa; rw [if_neg h]; congr 1; omega
theorem FormatInt_is (n : Int) (h : In64 n) : num_FormatInt.f n = some (B (Lib.itoa n)) := by
  obtain ⟨h1, h2⟩ := h
  unfold num_FormatInt.f
  rw [if_pos h1, if_pos h2]; rfl
theorem Itoa_is (n : Int) (h : In64 n) : strconv_Itoa.f n = some (B (Lib.itoa n)) := by
  obtain ⟨h1, h2⟩ := h
  unfold strconv_Itoa.f
  rw [if_pos h1, if_pos h2]; rfl
theorem amount_nat (n : Int) (h : In64 n) : colonnaderef01_amount.f n = some ((n.natAbs : Nat) : Int) := by
  obtain ⟨m, e, _, _, hm⟩ := amount_is n h
  rw [e, hm]
  congr 1
  split <;> omega
theorem refFormatInt_is (k : Nat) (hk : 2000 ≤ k) (n : Int) (h : In64 n) : colonnaderef01_FormatInt.f k n = some (B (Lib.itoa n)) := by
  unfold colonnaderef01_FormatInt.f
  obtain ⟨h1, h2⟩ := h
  have hp := plain_is k hk n.natAbs 1 (by omega) (by omega) (by omega)
  rw [show (((1 : Nat)) : Int) = 1 from rfl] at hp
  rw [amount_nat n ⟨h1, h2⟩]
  simp only [Option.bind_some]
  rw [hp]
  simp only [Option.bind_some]
  have hb := P_bd n.natAbs 1 (by omega) (by omega) (by omega)
  by_cases c : n < 0
  · rw [if_pos c, if_pos (by rw [B_size]; omega), itoa_neg n c, ← P_one, show (⟨#[45]⟩ : ByteArray) = B [45] from rfl, B_append]; rfl
  · rw [if_neg c, itoa_pos n c, ← P_one]

theorem sgn_same (b : Bool) (s : ByteArray) : num_FormatDec.sgn b s = colonnaderef01_FormatDec.sgn b s := rfl
theorem pnt_same (n : Nat) (s : ByteArray) : num_FormatDec.pnt n s = colonnaderef01_FormatDec.pnt n s := rfl

/-- what both write of a decimal -/
theorem cut_itoa (n : Int) : strings_CutPrefix.f (B (Lib.itoa n)) (⟨#[45]⟩ : ByteArray) = some (B (Lib.decDigits n.natAbs), decide (n < 0)) := by
  by_cases c : n < 0
  · rw [itoa_neg n c, cut_yes, decide_eq_true c]
  · obtain ⟨d, r, e, hd⟩ := digits_head n.natAbs
    rw [itoa_pos n c, cut_no, decide_eq_false c]
    rw [e]
    exact fun g => hd (Option.some.inj g)
theorem digits_bd (n : Int) (h : In64 n) : (Lib.decDigits n.natAbs).length ≤ 1000 := by
  have hdl := decDigits_length n.natAbs
  have hdd := nDigits_le n.natAbs 19 (by obtain ⟨h1, h2⟩ := h; omega)
  omega
theorem wide_bd (n : Int) (h : In64 n) (s : Nat) (hs : s ≤ 18) : (B (P n.natAbs (s + 1))).size ≤ 1000000 ∧ s ≤ (B (P n.natAbs (s + 1))).size := by
  have hb := P_bd n.natAbs (s + 1) (by obtain ⟨h1, h2⟩ := h; omega) (by omega) (by omega)
  rw [B_size]
  omega
theorem wrap_s (s : Nat) (hs : s ≤ 18) : wrap64 ((s : Int) + 1) = ((s + 1 : Nat) : Int) := by rw [wr (by omega) (by omega)]; omega
theorem FormatDec_num (n : Int) (h : In64 n) (s : Nat) (hs : s ≤ 18) : num_FormatDec.f n (s : Int) = some (num_FormatDec.sgn (decide (n < 0)) (num_FormatDec.pnt s (B (P n.natAbs (s + 1)))), 0) := by
  unfold num_FormatDec.f
  have c : (0 : Int) ≤ (s : Int) ∧ (s : Int) ≤ 18 := by omega
  rw [scale_is, decide_eq_true c, Option.bind_some, if_pos rfl, if_pos c.1, if_pos (show (s : Int) ≤ 1000 by omega), FormatInt_is n h, Option.bind_some, cut_itoa, Option.bind_some, wrap_s s hs]
  have pd := pad_is (Lib.decDigits n.natAbs) (s + 1) (digits_bd n h) (by omega)
  rw [← P_pad n.natAbs (s + 1) (by omega)] at pd
  have wb := wide_bd n h s hs
  show (num_pad.f (B (Lib.decDigits n.natAbs)) ((s + 1 : Nat) : Int)).bind _ = _
  rw [pd, Option.bind_some, Int.toNat_natCast, if_pos wb]
theorem FormatDec_ref (k : Nat) (hk : 2000 ≤ k) (n : Int) (h : In64 n) (s : Nat) (hs : s ≤ 18) : colonnaderef01_FormatDec.f k n (s : Int) = some (num_FormatDec.sgn (decide (n < 0)) (num_FormatDec.pnt s (B (P n.natAbs (s + 1)))), 0) := by
  unfold colonnaderef01_FormatDec.f
  have c : (0 : Int) ≤ (s : Int) ∧ (s : Int) ≤ 18 := by omega
  have wb := wide_bd n h s hs
  have pl := plain_is k hk n.natAbs (s + 1) (by obtain ⟨h1, h2⟩ := h; omega) (by omega) (by omega)
  rw [if_pos c.1, if_pos c.2, amount_nat n h, Option.bind_some, wrap_s s hs, pl, Option.bind_some, Int.toNat_natCast, if_pos wb, ← sgn_same, ← pnt_same]
theorem FormatDec_is (k : Nat) (hk : 2000 ≤ k) (n : Int) (h : In64 n) (s : Nat) (hs : s ≤ 18) :
    num_FormatDec.f n (s : Int) = some (num_FormatDec.sgn (decide (n < 0)) (num_FormatDec.pnt s (B (P n.natAbs (s + 1)))), 0) ∧ colonnaderef01_FormatDec.f k n (s : Int) = some (num_FormatDec.sgn (decide (n < 0)) (num_FormatDec.pnt s (B (P n.natAbs (s + 1)))), 0) :=
  ⟨FormatDec_num n h s hs, FormatDec_ref k hk n h s hs⟩
theorem FormatDec_no (k : Nat) (n s : Int) (h : ¬ (0 ≤ s ∧ s ≤ 18)) : num_FormatDec.f n s = some ((⟨#[]⟩ : ByteArray), 1) ∧ colonnaderef01_FormatDec.f k n s = some ((⟨#[]⟩ : ByteArray), 1) := by
  unfold num_FormatDec.f colonnaderef01_FormatDec.f
  rw [scale_is, decide_eq_false h]
  simp only [Option.bind_some]
  refine ⟨by rw [if_neg (by simp)], ?_⟩
  by_cases c : 0 ≤ s
  · rw [if_pos c, if_neg (by omega)]
  · rw [if_neg c]

/-- what both write of a day -/
def dayText (y m d : Nat) : List UInt8 := P y 4 ++ [45] ++ P m 2 ++ [45] ++ P d 2
theorem FormatDay_is (k : Nat) (hk : 60000 ≤ k) (y m d : Nat) (n : Int) (h : valid y m d) (hn : num y m d = n) : num_FormatDay.f k n = some (B (dayText y m d), 0) ∧ colonnaderef01_FormatDay.f k n = some (B (dayText y m d), 0) := by
  obtain ⟨c1, c2⟩ := Civil_is k hk y m d n h hn
  obtain ⟨h1, h2, h3, h4, h5, h6⟩ := h
  have hl := mlen_bd (y : Int) (m : Int)
  have by4 := P_bd y 4 (by omega) (by omega) (by omega)
  have bm2 := P_bd m 2 (by omega) (by omega) (by omega)
  have bd2 := P_bd d 2 (by omega) (by omega) (by omega)
  have dash : (⟨#[45]⟩ : ByteArray) = B [45] := rfl
  have pn : ∀ (a w : Nat), a ≤ 10000 → 1 ≤ w → w ≤ 1000 → (strconv_Itoa.f (a : Int)).bind (fun t => num_pad.f t (w : Int)) = some (B (P a w)) := by
    intro a w ha hw1 hw2
    have hdl := decDigits_length a
    have hdd := nDigits_le a 19 (by omega)
    rw [Itoa_is _ ⟨by omega, by omega⟩, itoa_pos _ (by omega), Int.natAbs_natCast]
    simp only [Option.bind_some]
    rw [pad_is _ _ (by omega) hw2, ← P_pad a w hw1]
  have pr : ∀ (a w : Nat), a ≤ 10000 → 1 ≤ w → w ≤ 1000 → colonnaderef01_plain.f k (IntKind.u64.wrap (a : Int)) (w : Int) = some (B (P a w)) := by
    intro a w ha hw1 hw2
    rw [show IntKind.u64.wrap (a : Int) = (a : Int) from by rw [IntKind.wrap_u64]; omega]
    exact plain_is k (by omega) a w (by omega) hw1 hw2
  have ny := pn y 4 (by omega) (by omega) (by omega)
  have nm := pn m 2 (by omega) (by omega) (by omega)
  have nd := pn d 2 (by omega) (by omega) (by omega)
  have ry := pr y 4 (by omega) (by omega) (by omega)
  have rm := pr m 2 (by omega) (by omega) (by omega)
  have rd' := pr d 2 (by omega) (by omega) (by omega)
  rw [show (((4 : Nat)) : Int) = 4 from rfl] at ny ry
  rw [show (((2 : Nat)) : Int) = 2 from rfl] at nm nd rm rd'
  obtain ⟨sy, ey, ny⟩ := Option.bind_eq_some_iff.mp ny
  obtain ⟨sm, em, nm⟩ := Option.bind_eq_some_iff.mp nm
  obtain ⟨sd, ed, nd⟩ := Option.bind_eq_some_iff.mp nd
  refine ⟨?_, ?_⟩
  · unfold num_FormatDay.f
    rw [c1]
    simp only [Option.bind_some, if_true, ey, ny, em, nm, ed, nd, dash, B_append, B_size, List.length_append, List.length_singleton]
    rw [if_pos (by omega), if_pos (by omega), if_pos (by omega), if_pos (by omega)]
    rfl
  · unfold colonnaderef01_FormatDay.f
    rw [c2]
    simp only [Option.bind_some, if_true, ry, rm, rd', dash, B_append, B_size, List.length_append, List.length_singleton]
    rw [if_pos (by omega), if_pos (by omega), if_pos (by omega), if_pos (by omega)]
    rfl
theorem FormatDay_no (k : Nat) (hk : 1 ≤ k) (n : Int) (h : n < -719162 ∨ n > 2932896) : num_FormatDay.f k n = some ((⟨#[]⟩ : ByteArray), 13) ∧ colonnaderef01_FormatDay.f k n = some ((⟨#[]⟩ : ByteArray), 13) := by
  obtain ⟨c1, c2⟩ := Civil_no k hk n h
  unfold num_FormatDay.f colonnaderef01_FormatDay.f
  rw [c1, c2]
  exact ⟨rfl, rfl⟩

end Go.Proofs.YtjpgjggbanpegaaGreatDoor.Pure
