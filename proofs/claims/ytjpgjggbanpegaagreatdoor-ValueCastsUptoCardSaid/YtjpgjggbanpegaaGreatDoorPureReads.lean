/- NumReads: what num and the reference make of any text is the same. -/
import Derived.Test.YtjpgjggbanpegaaGreatDoorPureDay
import Derived.Test.YtjpgjggbanpegaaGreatDoorDec
import Derived.Test.YtjpgjggbanpegaaGreatDoorStrB
import Derived.Lib.SlTrimSet
import Derived.Lib.IndexBytes
import Derived.Test.YtjpgjggbanpegaaGreatDoorE10
import Derived.Test.YtjpgjggbanpegaaGreatDoorE3
import Derived.Test.YtjpgjggbanpegaaGreatDoorE4
import Derived.Test.YtjpgjggbanpegaaGreatDoorE5
import Derived.Test.YtjpgjggbanpegaaGreatDoorE8
import Derived.Test.YtjpgjggbanpegaaGreatDoorE9
namespace Go.Proofs.YtjpgjggbanpegaaGreatDoor.Pure
open Go.RowKit Go.Proofs.YtjpgjggbanpegaaGreatDoor.E Go.Proofs.YtjpgjggbanpegaaGreatDoorW.PrintWords Go.Proofs.YtjpgjggbanpegaaGreatDoorW.PrintLast Go.Proofs.YtjpgjggbanpegaaGreatDoor.Str Go.Proofs.YtjpgjggbanpegaaGreatDoor.Cal
theorem bt_B (l : List UInt8) (i : Nat) (h : i < l.length) : bt (B l) (i : Int) = ((l.getD i 0).toNat : Int) := by
  unfold bt
  rw [dif_pos (show ((i : Int)).toNat < (B l).size by rw [B_size]; exact h), List.getD_eq_getElem?_getD, List.getElem?_eq_getElem h]
  rfl
theorem dg_mem (c : UInt8) (h : isDg c = true) : ([48, 49, 50, 51, 52, 53, 54, 55, 56, 57] : List UInt8).contains c = true := by
  obtain ⟨h1, h2⟩ := (isDg_iff c).1 h
  have hc : c = UInt8.ofNat c.toNat := UInt8.ofNat_toNat.symm
  have hn : c.toNat = 48 ∨ c.toNat = 49 ∨ c.toNat = 50 ∨ c.toNat = 51 ∨ c.toNat = 52 ∨ c.toNat = 53 ∨ c.toNat = 54 ∨ c.toNat = 55 ∨ c.toNat = 56 ∨ c.toNat = 57 := by omega
  rcases hn with e | e | e | e | e | e | e | e | e | e <;> (rw [hc, e]; decide)
theorem dw_nil (p : UInt8 → Bool) : ∀ l : List UInt8, (∀ c ∈ l, p c = true) → l.dropWhile p = []
  | [], _ => rfl
  | c :: l, h => by rw [List.dropWhile_cons, if_pos (h c (by simp))]; exact dw_nil p l fun x hx => h x (List.mem_cons_of_mem _ hx)
theorem tp_yes (r : List UInt8) : strings_TrimPrefix.f (B (45 :: r)) (⟨#[45]⟩ : ByteArray) = some (B r) := by
  have z : ((⟨#[45]⟩ : ByteArray).size : Int) = 1 := rfl
  have s1 : ((B (45 :: r)).size : Int) = (r.length : Int) + 1 := by rw [B_size]; simp
  unfold strings_TrimPrefix.f stringslite_TrimPrefix.f stringslite_HasPrefix.f
  simp only [z, s1]
  have g1 : (r.length : Int) + 1 ≥ 1 := by omega
  have g2 : (1 : Int) ≤ (r.length : Int) + 1 := by omega
  rw [if_pos g1, if_pos (by omega), if_pos g2, B_extract, B_extract, B_toList]
  have t : (⟨#[45]⟩ : ByteArray).toList = [45] := B_toList [45]
  rw [t]
  simp only [Option.bind_some]
  rw [if_pos (by simp), if_pos (by omega), if_pos g2]
  simp [B_size]
theorem tp_no (s : List UInt8) (h : s.head? ≠ some 45) : strings_TrimPrefix.f (B s) (⟨#[45]⟩ : ByteArray) = some (B s) := by
  have z : ((⟨#[45]⟩ : ByteArray).size : Int) = 1 := rfl
  unfold strings_TrimPrefix.f stringslite_TrimPrefix.f stringslite_HasPrefix.f
  simp only [z, B_size]
  cases s with
  | nil => simp
  | cons d r =>
    simp only [List.length_cons]
    have g1 : ((r.length + 1 : Nat) : Int) ≥ 1 := by omega
    have g2 : (1 : Int) ≤ ((r.length + 1 : Nat) : Int) := by omega
    rw [if_pos g1, if_pos (by omega), if_pos g2, B_extract, B_toList]
    have t : (⟨#[45]⟩ : ByteArray).toList = [45] := B_toList [45]
    have hd : ¬ d = 45 := fun e => h (by rw [e]; rfl)
    rw [t]
    simp only [Option.bind_some]
    rw [if_neg (by simp [hd])]
    rfl
theorem ib_none (m : UInt8) : ∀ l : List UInt8, (∀ c ∈ l, c ≠ m) → Lib.indexByte l m = -1
  | [], _ => rfl
  | c :: l, h => by
    have e := ib_none m l fun x hx => h x (List.mem_cons_of_mem _ hx)
    unfold Lib.indexByte
    rw [if_neg (by simpa using h c (by simp)), e]
    rfl
theorem ib_at (m : UInt8) (r : List UInt8) : ∀ l : List UInt8, (∀ c ∈ l, c ≠ m) → Lib.indexByte (l ++ m :: r) m = (l.length : Int)
  | [], _ => by
    show Lib.indexByte (m :: r) m = 0
    unfold Lib.indexByte
    rw [if_pos (by simp)]
  | c :: l, h => by
    have e := ib_at m r l fun x hx => h x (List.mem_cons_of_mem _ hx)
    show Lib.indexByte (c :: (l ++ m :: r)) m = _
    unfold Lib.indexByte
    rw [if_neg (by simpa using h c (by simp)), e, if_neg (by first | (simp; done) | (simp; omega))]
    simp
theorem day_atoi (l : List UInt8) (n : Nat) (h : allD l = true) (hv : val 0 l = n) (hne : l ≠ []) (hn : n ≤ 10000) : num_ParseDay.atoi (B l) = some (n : Int) := by
  unfold num_ParseDay.atoi
  rw [B_data, atoi_digits l h hne, hv, if_pos (by omega)]
/-- one digit or more, and nothing else -/
def dg (l : List UInt8) : Bool := decide (l ≠ []) && allD l
theorem dg_iff (l : List UInt8) : dg l = true ↔ l ≠ [] ∧ allD l = true := by unfold dg; simp
theorem dg_of_mem (c : UInt8) (h : ([48, 49, 50, 51, 52, 53, 54, 55, 56, 57] : List UInt8).contains c = true) : isDg c = true := by
  simp only [List.contains_eq_mem, List.mem_cons, List.not_mem_nil, or_false, decide_eq_true_eq] at h
  rcases h with e | e | e | e | e | e | e | e | e | e <;> (rw [e]; decide)
theorem dw_all (p : UInt8 → Bool) : ∀ l : List UInt8, l.dropWhile p = [] → ∀ c ∈ l, p c = true
  | [], _, c, hc => by cases hc
  | a :: l, h, c, hc => by
    rw [List.dropWhile_cons] at h
    by_cases g : p a = true
    · rw [if_pos g] at h
      rcases List.mem_cons.1 hc with rfl | hc
      · exact g
      · exact dw_all p l h c hc
    · rw [if_neg g] at h; cases h
theorem dw_head (p : UInt8 → Bool) : ∀ l : List UInt8, l.dropWhile p = [] ∨ ∃ a r, l.dropWhile p = a :: r ∧ p a = false
  | [] => .inl rfl
  | a :: l => by
    rw [List.dropWhile_cons]
    by_cases g : p a = true
    · rw [if_pos g]; exact dw_head p l
    · rw [if_neg g]; exact .inr ⟨a, l, rfl, by simpa using g⟩
theorem trim_dg (l : List UInt8) : Lib.trimS l [48, 49, 50, 51, 52, 53, 54, 55, 56, 57] = [] ↔ allD l = true := by
  unfold Lib.trimS Lib.trimRightS Lib.trimLeftS
  constructor
  · intro h
    have h1 := dw_all _ _ h
    rcases dw_head (([48, 49, 50, 51, 52, 53, 54, 55, 56, 57] : List UInt8).contains ·) l.reverse with e | ⟨a, r, e, ha⟩
    · have h2 := dw_all _ _ e
      exact List.all_eq_true.2 fun c hc => dg_of_mem c (h2 c (List.mem_reverse.2 hc))
    · have := h1 a (by rw [e]; simp)
      rw [ha] at this
      cases this
  · intro h
    have e1 : l.reverse.dropWhile (([48, 49, 50, 51, 52, 53, 54, 55, 56, 57] : List UInt8).contains ·) = [] :=
      dw_nil _ _ fun c hc => dg_mem c (List.all_eq_true.1 h c (List.mem_reverse.1 hc))
    rw [e1]
    rfl
theorem digits_is (l : List UInt8) (hl : l.length ≤ 200000000000000) : num_digits.f (B l) = some (dg l) := by
  unfold num_digits.f
  rw [B_toList]
  by_cases hne : l = []
  · subst hne; rfl
  · rw [if_neg hne]
    unfold strings_Trim.f
    rw [if_pos rfl, if_pos (by rw [B_size]; omega), Option.bind_some, B_data]
    show some ((B (Lib.trimS l [48, 49, 50, 51, 52, 53, 54, 55, 56, 57])).toList == ([] : List UInt8)) = some (dg l)
    rw [B_toList]
    unfold dg
    rw [decide_eq_true (show l ≠ [] from hne), Bool.true_and]
    congr 1
    rw [Bool.eq_iff_iff, beq_iff_eq]
    exact trim_dg l
theorem w64s (a : Nat) (h : a ≤ 1000000000000000000) : wrap64 ((a : Int) + 1) = ((a + 1 : Nat) : Int) := by rw [wr (by omega) (by omega)]; omega
theorem getD_drop {l : List UInt8} {i : Nat} (h : i < l.length) : l.drop i = l.getD i 0 :: l.drop (i + 1) := by
  rw [List.drop_eq_getElem_cons h, List.getD_eq_getElem?_getD, List.getElem?_eq_getElem h]; rfl
theorem refdigits_loop (l : List UInt8) (hl : l.length ≤ 200000000000000) : ∀ (d k i : Nat), i + d = l.length → d < k → colonnaderef01_digits.l0 k (B l) (i : Int) = some (decide (l ≠ []) && allD (l.drop i)) := by
  intro d
  induction d with
  | zero =>
    intro k i h hk
    obtain ⟨k, rfl⟩ : ∃ q, k = q + 1 := ⟨k - 1, by omega⟩
    rw [colonnaderef01_digits.l0, if_neg (by rw [B_size]; omega), List.drop_of_length_le (by omega), B_size]
    congr 1
    rw [show allD [] = true from rfl, Bool.and_true]
    cases l with
    | nil => rfl
    | cons a r => rw [decide_eq_true (by first | (simp; done) | (simp; omega)), decide_eq_true (by simp)]
  | succ d ih =>
    intro k i h hk
    obtain ⟨k, rfl⟩ : ∃ q, k = q + 1 := ⟨k - 1, by omega⟩
    have hi : i < l.length := by omega
    have hne : l ≠ [] := fun z => by rw [z] at hi; simp at hi
    rw [colonnaderef01_digits.l0, if_pos (by rw [B_size]; omega), if_pos (by omega), bt_B l i hi, w64s i (by omega), ih k (i + 1) (by omega) (by omega), getD_drop hi, allD_cons, decide_eq_true hne]
    obtain ⟨c, hc⟩ : ∃ c, l.getD i 0 = c := ⟨_, rfl⟩
    rw [hc]
    by_cases g1 : (c.toNat : Int) < 48
    · rw [if_pos g1]
      have : isDg c = false := by rw [Bool.eq_false_iff]; intro z; have := (isDg_iff c).1 z; omega
      rw [this]; rfl
    · rw [if_neg g1]
      by_cases g2 : (c.toNat : Int) > 57
      · rw [if_pos g2]
        have : isDg c = false := by rw [Bool.eq_false_iff]; intro z; have := (isDg_iff c).1 z; omega
        rw [this]; rfl
      · rw [if_neg g2]
        have : isDg c = true := (isDg_iff c).2 ⟨by omega, by omega⟩
        rw [this]
        simp
theorem refdigits_is (k : Nat) (l : List UInt8) (hl : l.length ≤ 200000000000000) (hk : l.length < k) : colonnaderef01_digits.f k (B l) = some (dg l) := by
  unfold colonnaderef01_digits.f
  have := refdigits_loop l hl l.length k 0 (by omega) hk
  simpa [dg] using this
theorem refread_loop (l : List UInt8) (hl : l.length ≤ 200000000000000) (hd : allD l = true) (M : Nat) (hM : 9 ≤ M ∧ M ≤ 9223372036854775808) : ∀ (d k i n : Nat), i + d = l.length → d < k → n ≤ M →
    colonnaderef01_read.l0 k (B l) (M : Int) (n : Int) (i : Int) = some (if val n (l.drop i) ≤ M then ((val n (l.drop i) : Nat) : Int) else 0, decide (val n (l.drop i) ≤ M)) := by
  intro d
  induction d with
  | zero =>
    intro k i n h hk hn
    obtain ⟨k, rfl⟩ : ∃ q, k = q + 1 := ⟨k - 1, by omega⟩
    rw [colonnaderef01_read.l0, if_neg (by rw [B_size]; omega), List.drop_of_length_le (by omega), show val n [] = n from rfl, if_pos hn, decide_eq_true hn]
  | succ d ih =>
    intro k i n h hk hn
    obtain ⟨k, rfl⟩ : ∃ q, k = q + 1 := ⟨k - 1, by omega⟩
    have hi : i < l.length := by omega
    have hc0 : isDg (l.getD i 0) = true := by
      apply List.all_eq_true.1 hd
      rw [List.getD_eq_getElem?_getD, List.getElem?_eq_getElem hi]
      exact List.getElem_mem hi
    rw [colonnaderef01_read.l0, if_pos (by rw [B_size]; omega), if_pos (by omega), bt_B l i hi, w64s i (by omega), getD_drop hi]
    obtain ⟨c, hc⟩ : ∃ c, l.getD i 0 = c := ⟨_, rfl⟩
    rw [hc] at hc0 ⊢
    have hb := (isDg_iff c).1 hc0
    obtain ⟨e, he⟩ : ∃ e, c.toNat = 48 + e := ⟨c.toNat - 48, by omega⟩
    have e1 : ((c.toNat : Int) - 48) % 256 = (e : Int) := by omega
    have e2 : IntKind.u64.wrap (Int.tdiv (IntKind.u64.wrap ((M : Int) - (e : Int))) 10) = (((M - e) / 10 : Nat) : Int) := by
      rw [show IntKind.u64.wrap ((M : Int) - (e : Int)) = ((M - e : Nat) : Int) from by rw [IntKind.wrap_u64]; omega, Int.tdiv_eq_ediv_of_nonneg (by omega), IntKind.wrap_u64]
      omega
    have hv : val n (c :: l.drop (i + 1)) = val (n * 10 + e) (l.drop (i + 1)) := by
      show val (n * 10 + (c.toNat - 48)) (l.drop (i + 1)) = _
      rw [show c.toNat - 48 = e from by omega]
    rw [e1, e2, hv]
    by_cases g : (n : Int) > (((M - e) / 10 : Nat) : Int)
    · rw [if_pos g]
      have := val_ge (l.drop (i + 1)) (n * 10 + e)
      rw [if_neg (by omega), decide_eq_false (by omega)]
    · rw [if_neg g]
      have e3 : IntKind.u64.wrap (IntKind.u64.wrap (10 * (n : Int)) + (e : Int)) = ((n * 10 + e : Nat) : Int) := by
        rw [IntKind.wrap_u64, IntKind.wrap_u64]; omega
      rw [e3]
      exact ih k (i + 1) (n * 10 + e) (by omega) (by omega) (by omega)
theorem refread_is (k : Nat) (l : List UInt8) (hl : l.length ≤ 200000000000000) (hk : l.length < k) (hd : allD l = true) (M : Nat) (hM : 9 ≤ M ∧ M ≤ 9223372036854775808) :
    colonnaderef01_read.f k (B l) (M : Int) = some (if val 0 l ≤ M then ((val 0 l : Nat) : Int) else 0, decide (val 0 l ≤ M)) := by
  unfold colonnaderef01_read.f
  exact refread_loop l hl hd M hM l.length k 0 0 (by omega) hk (by omega)
theorem signed_is (k : Nat) (n : Nat) (h : n ≤ 9223372036854775808) (b : Bool) : colonnaderef01_signed.f (k + 1) (n : Int) b = some (if b = true then (-(n : Int), 0) else if n ≤ 9223372036854775807 then ((n : Int), 0) else (0, 10)) := by
  unfold colonnaderef01_signed.f
  cases b with
  | true =>
    rw [if_pos rfl, if_pos rfl, colonnaderef01_signed.j0, if_pos (decide_eq_true (by omega))]
    congr 2
    rw [IntKind.wrap_u64]; unfold wrap64; omega
  | false =>
    rw [if_neg (by simp), if_neg (by simp), colonnaderef01_signed.j0, if_neg (by simp)]
    by_cases g : n ≤ 9223372036854775807
    · rw [if_neg (by omega), if_pos g]
      congr 2
      unfold wrap64; omega
    · rw [if_pos (by omega), if_neg g]
/-- what a text without its sign is as a whole number -/
def pint (r : List UInt8) (b : Bool) : Int × Int :=
  if dg r = true then (if val 0 r ≤ 9223372036854775808 then (if b = true then (-((val 0 r : Nat) : Int), 0) else if val 0 r ≤ 9223372036854775807 then (((val 0 r : Nat) : Int), 0) else (0, 10)) else (0, 10)) else (0, 12)
theorem refPI_j1 (k : Nat) (r : List UInt8) (b : Bool) (hl : r.length ≤ 200000000000000) (hk : r.length + 10 ≤ k) : colonnaderef01_ParseInt.j1 (k + 1) (B r) b = some (pint r b) := by
  rw [colonnaderef01_ParseInt.j1, refdigits_is k r hl (by omega), Option.bind_some]
  unfold pint
  by_cases c : dg r = true
  · rw [if_pos c, if_pos c]
    have h2 := refread_is k r hl (by omega) ((dg_iff r).1 c).2 9223372036854775808 (by omega)
    rw [show ((9223372036854775808 : Nat) : Int) = 9223372036854775808 from rfl] at h2
    rw [h2, Option.bind_some]
    by_cases g : val 0 r ≤ 9223372036854775808
    · rw [if_pos g, if_pos g, if_pos (decide_eq_true g)]
      obtain ⟨k, rfl⟩ : ∃ q, k = q + 1 := ⟨k - 1, by omega⟩
      show (colonnaderef01_signed.f (k + 1) ((val 0 r : Nat) : Int) b).bind _ = _
      rw [signed_is k _ g b, Option.bind_some]
    · rw [if_neg g, if_neg g, if_neg (by rw [decide_eq_false g]; simp)]
  · rw [if_neg c, if_neg c]
/-- a text's sign, and what is behind it -/
theorem sign_cases (l : List UInt8) : (∃ r, l = 45 :: r) ∨ (l.head? ≠ some 45) := by
  cases l with
  | nil => exact .inr (by simp)
  | cons c r =>
    by_cases h : c = 45
    · exact .inl ⟨r, by rw [h]⟩
    · exact .inr (by simpa using h)
theorem bt_ne (l : List UInt8) (h : l.head? ≠ some 45) (hl : 0 < l.length) : (bt (B l) 0 == 45) = false := by
  cases l with
  | nil => simp at hl
  | cons c r =>
    have e : bt (B (c :: r)) 0 = (c.toNat : Int) := bt_B (c :: r) 0 (by simp)
    rw [e, beq_eq_false_iff_ne]
    intro z
    have : c = 45 := UInt8.toNat_inj.1 (by have : (45 : UInt8).toNat = 45 := rfl; omega)
    exact h (by rw [this]; rfl)
theorem bt_45 (r : List UInt8) : (bt (B (45 :: r)) 0 == 45) = true := by
  have e : bt (B (45 :: r)) 0 = 45 := bt_B (45 :: r) 0 (by simp)
  rw [e]; rfl
theorem ParseInt_both (k : Nat) (l : List UInt8) (hl : l.length ≤ 200000000000000) (hk : l.length + 20 ≤ k) : ∃ r, num_ParseInt.f (B l) = some r ∧ colonnaderef01_ParseInt.f k (B l) = some r := by
  obtain ⟨k, rfl⟩ : ∃ q, k = q + 2 := ⟨k - 2, by omega⟩
  unfold num_ParseInt.f colonnaderef01_ParseInt.f
  rcases sign_cases l with ⟨r, rfl⟩ | h
  · rw [List.length_cons] at hl hk
    refine ⟨pint r true, ?_, ?_⟩
    · rw [tp_yes, Option.bind_some, digits_is r (by omega), Option.bind_some]
      unfold pint
      by_cases c : dg r = true
      · obtain ⟨h1, h2⟩ := (dg_iff r).1 c
        rw [if_pos c, if_pos c, if_pos (by rw [B_size, List.length_cons]; omega), B_data, Lib.parseIntB_64, atoi_minus r h2 h1]
        by_cases g : val 0 r ≤ 9223372036854775808
        · rw [if_pos g, if_pos g, if_pos rfl]
        · rw [if_neg g, if_neg g]
      · rw [if_neg c, if_neg c]
    · rw [if_pos (by rw [B_size, List.length_cons]; omega), if_pos (by rw [B_size, List.length_cons]; omega), bt_45, colonnaderef01_ParseInt.j0, if_pos rfl, if_pos (by rw [B_size, List.length_cons]; omega), B_extract, B_size, List.take_of_length_le (Nat.le_refl _)]
      exact refPI_j1 k r true (by omega) (by omega)
  · refine ⟨pint l false, ?_, ?_⟩
    · rw [tp_no l h, Option.bind_some, digits_is l hl, Option.bind_some]
      unfold pint
      by_cases c : dg l = true
      · obtain ⟨h1, h2⟩ := (dg_iff l).1 c
        rw [if_pos c, if_pos c, if_pos (by rw [B_size]; omega), B_data, Lib.parseIntB_64, atoi_digits l h2 h1]
        by_cases g : val 0 l ≤ 9223372036854775807
        · rw [if_pos (by omega), if_pos (by omega), if_neg (by simp), if_pos g]
        · rw [if_neg (by omega)]
          by_cases g2 : val 0 l ≤ 9223372036854775808
          · rw [if_pos g2, if_neg (by simp), if_neg g]
          · rw [if_neg g2]
      · rw [if_neg c, if_neg c]
    · by_cases z : 0 < l.length
      · rw [if_pos (by rw [B_size]; omega), if_pos (by rw [B_size]; omega), bt_ne l h z, colonnaderef01_ParseInt.j0, if_neg (by simp)]
        exact refPI_j1 k l false hl (by omega)
      · rw [if_neg (by rw [B_size]; omega), colonnaderef01_ParseInt.j0, if_neg (by simp)]
        exact refPI_j1 k l false hl (by omega)
end Go.Proofs.YtjpgjggbanpegaaGreatDoor.Pure
