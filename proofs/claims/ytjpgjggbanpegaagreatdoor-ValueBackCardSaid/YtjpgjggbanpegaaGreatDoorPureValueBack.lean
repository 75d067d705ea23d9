/- ValueBack: what the printed law computes is true, for all values and all scales. -/
import Derived.Test.YtjpgjggbanpegaaGreatDoorPureParseC
import Derived.Test.YtjpgjggbanpegaaGreatDoorPureBeg02
import Derived.Test.YtjpgjggbanpegaaGreatDoorPureScale
import Derived.Test.YtjpgjggbanpegaaGreatDoorD90
import Derived.Test.YtjpgjggbanpegaaGreatDoorD3
import Derived.Test.YtjpgjggbanpegaaGreatDoorD4
import Derived.Test.YtjpgjggbanpegaaGreatDoorD5
import Derived.Test.YtjpgjggbanpegaaGreatDoorD6
import Derived.Test.YtjpgjggbanpegaaGreatDoorD8
namespace Go.Proofs.YtjpgjggbanpegaaGreatDoor.Pure
open Go.RowKit Go.Proofs.YtjpgjggbanpegaaGreatDoor.D Go.Proofs.YtjpgjggbanpegaaGreatDoorW.PrintWords Go.Proofs.YtjpgjggbanpegaaGreatDoorW.PrintLast Go.Proofs.YtjpgjggbanpegaaGreatDoor.Str Go.Proofs.YtjpgjggbanpegaaGreatDoor.Cal
/-- a type that may be -/
def tyOk (t0 t1 : Int) : Prop := 1 ≤ t0 ∧ t0 ≤ 5 ∧ 0 ≤ t1 ∧ t1 ≤ 18 ∧ (t1 = 0 ∨ t0 = 3)
theorem chk_yes {t0 t1 : Int} (h : tyOk t0 t1) : value_CheckType.f t0 t1 = some 0 := by
  obtain ⟨h1, h2, h3, h4, h5⟩ := h
  unfold value_CheckType.f value_scaled.f
  rw [if_neg (by omega), if_neg (by omega), if_pos (show t1 ≥ 0 by omega), Option.bind_some, if_pos (decide_eq_true h4)]
  rcases h5 with h | h
  · rw [if_pos h]
  · by_cases c : t1 = 0
    · rw [if_pos c]
    · rw [if_neg c, if_pos h]
theorem chk_no {t0 t1 : Int} (h : ¬ tyOk t0 t1) : value_CheckType.f t0 t1 = some 21 := by
  unfold value_CheckType.f value_scaled.f
  by_cases c1 : t0 < 1
  · rw [if_pos c1]
  rw [if_neg c1]
  by_cases c2 : t0 > 5
  · rw [if_pos c2]
  rw [if_neg c2]
  by_cases c3 : t1 ≥ 0
  · rw [if_pos c3, Option.bind_some]
    by_cases c4 : t1 ≤ 18
    · rw [if_pos (decide_eq_true c4), if_neg (fun z => h ⟨by omega, by omega, by omega, by omega, .inl z⟩), if_neg (fun z => h ⟨by omega, by omega, by omega, by omega, .inr z⟩)]
    · rw [if_neg (by simpa using c4)]
  · rw [if_neg c3, Option.bind_some, if_neg (by simp)]
theorem fam_is (a : Int) : value_family.f a = some (if a = 3 then 2 else a) := by unfold value_family.f; split <;> rfl
theorem cast_no {k : Nat} {a0 a1 a3 t0 t1 : Int} {a2 : Bool} {a4 : ByteArray} (ht : ¬ tyOk t0 t1) : value_Cast.f k a0 a1 a2 a3 a4 t0 t1 = some (0, 0, false, 0, (⟨#[]⟩ : ByteArray), 21) := by
  unfold value_Cast.f
  rw [chk_no ht, Option.bind_some, if_neg (by decide)]
theorem cast_in {k : Nat} {a0 a1 a3 t0 t1 : Int} {a2 : Bool} {a4 : ByteArray} (ht : tyOk t0 t1) (h1 : 1 ≤ a0) (h2 : a0 ≤ 5) (hw : a0 = t0 ∨ a0 = 4 ∨ t0 = 4 ∨ (if a0 = 3 then (2 : Int) else a0) = if t0 = 3 then 2 else t0) :
    value_Cast.f k a0 a1 a2 a3 a4 t0 t1 = value_Cast.j0 k a0 false a0 a1 a2 a3 a4 t0 t1 := by
  unfold value_Cast.f
  rw [chk_yes ht, Option.bind_some, if_pos rfl, if_neg (by omega), if_neg (by omega)]
  by_cases c1 : a0 = t0
  · rw [if_pos c1]
  rw [if_neg c1]
  by_cases c2 : a0 = 4
  · rw [if_pos c2]
  rw [if_neg c2]
  by_cases c3 : t0 = 4
  · rw [if_pos c3]
  rw [if_neg c3, fam_is, Option.bind_some, fam_is, Option.bind_some]
  have e : (if a0 = 3 then (2 : Int) else a0) = if t0 = 3 then 2 else t0 := by
    rcases hw with h | h | h | h
    · exact absurd h c1
    · exact absurd h c2
    · exact absurd h c3
    · exact h
  rw [e]
  simp
theorem cast_null (k : Nat) {a0 a1 a3 t0 t1 : Int} {a4 : ByteArray} (ht : tyOk t0 t1) (h1 : 1 ≤ a0) (h2 : a0 ≤ 5) (hw : a0 = t0 ∨ a0 = 4 ∨ t0 = 4 ∨ (if a0 = 3 then (2 : Int) else a0) = if t0 = 3 then 2 else t0) :
    value_Cast.f (k + 1) a0 a1 true a3 a4 t0 t1 = some (t0, t1, true, 0, (⟨#[]⟩ : ByteArray), 0) := by
  rw [cast_in ht h1 h2 hw, value_Cast.j0, if_neg (by decide), if_pos rfl]
  rfl
theorem cast_text (k : Nat) {a0 a1 a3 : Int} {a4 : ByteArray} (h1 : 1 ≤ a0) (h2 : a0 ≤ 5) (h4 : a0 ≠ 4) (s : List UInt8) (hs : value_Show.f k a0 a1 false a3 a4 = some (B s)) (hl : s.length ≤ 256) :
    value_Cast.f (k + 1) a0 a1 false a3 a4 4 0 = some (4, 0, false, 0, B s, 0) := by
  rw [cast_in ⟨by omega, by omega, by omega, by omega, .inl rfl⟩ h1 h2 (.inr (.inr (.inl rfl))), value_Cast.j0, if_neg (by decide), if_neg (by decide), if_pos rfl]
  unfold value_texted.f
  rw [if_neg h4, hs, Option.bind_some, if_neg (by rw [B_size]; omega)]
  rfl
theorem cast_texts (k : Nat) {a1 a3 : Int} {a4 : ByteArray} (hl : a4.size ≤ 256) :
    value_Cast.f (k + 1) 4 a1 false a3 a4 4 0 = some (4, 0, false, 0, a4, 0) := by
  rw [cast_in ⟨by omega, by omega, by omega, by omega, .inl rfl⟩ (by omega) (by omega) (.inl rfl), value_Cast.j0, if_neg (by decide), if_neg (by decide), if_pos rfl]
  unfold value_texted.f
  rw [if_pos rfl, if_neg (by omega)]
  rfl
theorem cast_read (k : Nat) {a1 a3 t0 t1 n : Int} {a4 : ByteArray} (ht : tyOk t0 t1) (h4 : t0 ≠ 4) (hr : value_read.f k a4 t0 t1 = some (t0, t1, false, n, (⟨#[]⟩ : ByteArray), 0)) :
    value_Cast.f (k + 1) 4 a1 false a3 a4 t0 t1 = some (t0, t1, false, n, (⟨#[]⟩ : ByteArray), 0) := by
  rw [cast_in ht (by omega) (by omega) (.inr (.inl rfl)), value_Cast.j0, if_neg (by decide), if_neg (by decide), if_neg h4, if_pos rfl, hr]
  rfl
/-- fits a decimal -/
def Fit (v : Int) : Prop := -999999999999999999 ≤ v ∧ v ≤ 999999999999999999
theorem fits_yes {v : Int} (h : Fit v) : num_Fits.f v = some true := by rw [(Fits_is v).1, decide_eq_true (show _ ∧ _ from h)]
theorem fits_no {v : Int} (h : ¬ Fit v) : num_Fits.f v = some false := by rw [(Fits_is v).1, decide_eq_false (show ¬ (_ ∧ _) from h)]
theorem scale_in (k : Nat) {v f t : Int} (hf : 0 ≤ f ∧ f ≤ 18) (ht : 0 ≤ t ∧ t ≤ 18) : num_Scale.f k v f t = num_Scale.j0 k v f t false := by
  unfold num_Scale.f
  rw [scale_is, scale_is, decide_eq_true hf, decide_eq_true ht]; rfl
theorem scale_big (k : Nat) {v f t : Int} (hf : 0 ≤ f ∧ f ≤ 18) (ht : 0 ≤ t ∧ t ≤ 18) (hv : ¬ Fit v) : num_Scale.f (k + 1) v f t = some (0, 10) := by
  rw [scale_in _ hf ht, num_Scale.j0, if_neg (by decide), fits_no hv, Option.bind_some, if_neg (by decide)]
theorem scale_up (k : Nat) (hk : 60 ≤ k) {v f t : Int} (h0 : 0 ≤ f) (h1 : f ≤ t) (h2 : t ≤ 18) (hv : Fit v) :
    num_Scale.f (k + 1) v f t = if (-999999999999999999 ≤ v * p10 (t - f) ∧ v * p10 (t - f) ≤ 999999999999999999) then some (v * p10 (t - f), 0) else some (0, 10) := by
  have w : wrap64 (t - f) = t - f := by rw [w64_mod]; omega
  obtain ⟨p1, p2⟩ := Pow10_is k (by omega) (t - f) (by omega) (by omega)
  have pb := p10_bd (n := t - f) (by omega) (by omega)
  have hv' := hv
  unfold Fit at hv'
  rw [scale_in _ ⟨h0, by omega⟩ ⟨by omega, h2⟩, num_Scale.j0, if_neg (by decide), fits_yes hv, Option.bind_some, if_pos rfl, if_pos (show t ≥ f from h1), w, p1, Option.bind_some]
  obtain ⟨r, m1, m2, m3, m4⟩ := Mul_is (a := v) (b := p10 (t - f)) ⟨by omega, by omega⟩ ⟨by omega, by omega⟩ k (by omega)
  clear m2 p1 p2 w
  rw [show num_Mul.f v (p10 (t - f), (0 : Int)).1 = some r from m1, Option.bind_some]
  obtain ⟨x, hx⟩ : ∃ z, z = v * p10 (t - f) := ⟨_, rfl⟩
  rw [← hx] at m3 m4 ⊢
  by_cases c : -999999999999999999 ≤ x ∧ x ≤ 999999999999999999
  · rw [if_pos c, m3 ⟨by omega, by omega⟩, if_pos rfl, fits_yes (show Fit x from c), Option.bind_some, if_pos rfl]
  · rw [if_neg c]
    by_cases g : In64 x
    · rw [m3 g, if_pos rfl, fits_no (show ¬ Fit x from c), Option.bind_some, if_neg (by decide)]
    · rw [m4 g, if_neg (by decide)]
theorem scale_same (k : Nat) (hk : 60 ≤ k) {v s : Int} (h0 : 0 ≤ s) (h2 : s ≤ 18) (hv : Fit v) : num_Scale.f (k + 1) v s s = some (v, 0) := by
  rw [scale_up k hk h0 (Int.le_refl _) h2 hv, Int.sub_self, p10_0, Int.mul_one, if_pos (show -999999999999999999 ≤ v ∧ v ≤ 999999999999999999 from hv)]
theorem scale_back (k : Nat) (hk : 60 ≤ k) {v s : Int} (h0 : 0 ≤ s) (h2 : s ≤ 18) (hv : Fit (v * p10 s)) : num_Scale.f (k + 1) (v * p10 s) s 0 = some (v, 0) := by
  by_cases c : s = 0
  · subst c
    rw [p10_0, Int.mul_one] at hv ⊢
    exact scale_same k hk (by omega) (by omega) hv
  have w : wrap64 (s - 0) = s := by rw [w64_mod]; omega
  obtain ⟨p1, p2⟩ := Pow10_is k (by omega) s h0 h2
  have pb := p10_bd (n := s) h0 h2
  rw [scale_in _ ⟨h0, h2⟩ ⟨by omega, by omega⟩, num_Scale.j0, if_neg (by decide), fits_yes hv, Option.bind_some, if_pos rfl, if_neg (by omega), w, p1, Option.bind_some]
  unfold Fit at hv
  generalize p10 s = p at pb hv ⊢
  have hp : ¬ p = 0 := by omega
  have e1 : Int.tmod (v * p) p = 0 := Int.mul_tmod_left v p
  have e2 : Int.tdiv (v * p) p = v := Int.mul_tdiv_cancel v hp
  have hv2 : -999999999999999999 ≤ v ∧ v ≤ 999999999999999999 := by
    obtain ⟨q, rfl⟩ : ∃ q, p = q + 1 := ⟨p - 1, by omega⟩
    have e3 : v * (q + 1) = v * q + v := by rw [Int.mul_add, Int.mul_one]
    rw [e3] at hv
    by_cases g : 0 ≤ v
    · have := Int.mul_nonneg g (show 0 ≤ q by omega)
      omega
    · have := Int.mul_nonneg (show 0 ≤ -v by omega) (show 0 ≤ q by omega)
      rw [Int.neg_mul] at this
      omega
  rw [if_neg hp]
  simp only [e1, e2]
  simp only [w64_mod]
  rw [if_neg (by omega), if_neg (by omega)]
  congr 2
  omega
theorem text_len (n : Int) (h : In64 n) (m : Nat) (hm : 1 ≤ m) (h2 : m ≤ 19) : (P n.natAbs m).length ≤ 20 := by
  obtain ⟨h1, h3⟩ := h
  rw [P_length _ _ hm]
  have := nDigits_le n.natAbs 19 (by omega)
  omega
theorem show_int (k : Nat) (a1 a3 : Int) (a4 : ByteArray) (h : In64 a3) : value_Show.f (k + 1) 2 a1 false a3 a4 = some (B (Lib.itoa a3)) := by
  unfold value_Show.f
  rw [FormatInt_is a3 h, Option.bind_some, if_neg (by decide), if_neg (by decide), value_Show.j0]
  rfl
theorem itoa_len (n : Int) (h : In64 n) : (Lib.itoa n).length ≤ 256 := by
  have e := text_len n h 1 (by omega) (by omega)
  rw [P_one] at e
  by_cases c : n < 0
  · rw [itoa_neg n c, List.length_cons]; omega
  · rw [itoa_pos n c]; omega
theorem sgn_B (b : Bool) (x : List UInt8) : num_FormatDec.sgn b (B x) = B (sg b ++ x) := by
  unfold num_FormatDec.sgn sg
  split
  · rw [show (⟨#[45]⟩ : ByteArray) = B [45] from rfl, B_append]
  · rfl
theorem pnt_B (s : Nat) (D : List UInt8) (h : s ≤ D.length) : ∃ x, num_FormatDec.pnt s (B D) = B x ∧ x.length ≤ D.length + 1 := by
  unfold num_FormatDec.pnt
  split
  · rw [B_size, B_extract, B_extract, show (⟨#[46]⟩ : ByteArray) = B [46] from rfl, B_append, B_append]
    refine ⟨_, rfl, ?_⟩
    simp only [List.length_append, List.length_drop, List.length_take, List.length_cons, List.length_nil]
    omega
  · exact ⟨_, rfl, by omega⟩
theorem show_dec (k : Nat) (a3 : Int) (a4 : ByteArray) (h : In64 a3) (s : Nat) (hs : s ≤ 18) : ∃ x, num_FormatDec.sgn (decide (a3 < 0)) (num_FormatDec.pnt s (B (P a3.natAbs (s + 1)))) = B x ∧ x.length ≤ 256 ∧ value_Show.f (k + 1) 3 s false a3 a4 = some (B x) := by
  have hl := text_len a3 h (s + 1) (by omega) (by omega)
  have hl2 := (P_length a3.natAbs (s + 1) (by omega))
  obtain ⟨x, e, hx⟩ := pnt_B s (P a3.natAbs (s + 1)) (by omega)
  refine ⟨sg (decide (a3 < 0)) ++ x, by rw [e, sgn_B], ?_, ?_⟩
  · rw [List.length_append]
    have : (sg (decide (a3 < 0))).length ≤ 1 := by unfold sg; split <;> simp
    omega
  · unfold value_Show.f
    rw [FormatInt_is a3 h, Option.bind_some, if_neg (by decide), if_neg (by decide), value_Show.j0, if_neg (by decide), if_neg (by decide), if_neg (by decide), if_pos rfl, FormatDec_num a3 h s hs, Option.bind_some, if_pos rfl, e, sgn_B]
theorem show_day (k : Nat) (hk : 60000 ≤ k) (a1 a3 : Int) (a4 : ByteArray) (h : In64 a3) (y m d : Nat) (hv : valid y m d) (hn : num y m d = a3) : value_Show.f (k + 1) 5 a1 false a3 a4 = some (B (dayText y m d)) := by
  unfold value_Show.f
  rw [FormatInt_is a3 h, Option.bind_some, if_neg (by decide), if_neg (by decide), value_Show.j0, if_neg (by decide), if_neg (by decide), if_neg (by decide), if_neg (by decide), if_pos rfl, (FormatDay_is k hk y m d a3 hv hn).1, Option.bind_some, if_pos rfl]
theorem show_false (k : Nat) (a1 : Int) (a4 : ByteArray) : value_Show.f (k + 1) 1 a1 false 0 a4 = some (B [70, 65, 76, 83, 69]) := by
  unfold value_Show.f
  rw [FormatInt_is 0 ⟨by omega, by omega⟩, Option.bind_some, if_neg (by decide), if_pos rfl, value_Show.j0, if_pos rfl]
  rfl
theorem show_true (k : Nat) (a1 : Int) (a4 : ByteArray) : value_Show.f (k + 1) 1 a1 false 1 a4 = some (B [84, 82, 85, 69]) := by
  unfold value_Show.f
  rw [FormatInt_is 1 ⟨by omega, by omega⟩, Option.bind_some, if_neg (by decide), if_pos rfl, value_Show.j0, if_neg (by decide), if_pos rfl]
  rfl
theorem caps_true : value_capitals.f (B [84, 82, 85, 69]) = some (B [84, 82, 85, 69]) := by kernel_rfl
theorem caps_false : value_capitals.f (B [70, 65, 76, 83, 69]) = some (B [70, 65, 76, 83, 69]) := by kernel_rfl
theorem B_lit (a : Array UInt8) : (⟨a⟩ : ByteArray) = B a.toList := by simp [B]
theorem read_true (k : Nat) (t1 : Int) : value_read.f k (B [84, 82, 85, 69]) 1 t1 = some (1, t1, false, 1, (⟨#[]⟩ : ByteArray), 0) := by
  unfold value_read.f
  rw [if_pos rfl, caps_true, Option.bind_some, if_pos (by rw [B_lit])]
  rfl
theorem read_false (k : Nat) (t1 : Int) : value_read.f k (B [70, 65, 76, 83, 69]) 1 t1 = some (1, t1, false, 0, (⟨#[]⟩ : ByteArray), 0) := by
  unfold value_read.f
  rw [if_pos rfl, caps_false, Option.bind_some, if_neg (by rw [B_lit]; intro z; exact absurd (B_inj z) (by decide)), if_pos (by rw [B_lit])]
  rfl
theorem read_int (k : Nat) (n t1 : Int) (h : In64 n) : value_read.f k (B (Lib.itoa n)) 2 t1 = some (2, t1, false, n, (⟨#[]⟩ : ByteArray), 0) := by
  unfold value_read.f
  rw [if_neg (by decide), if_pos rfl, ParseInt_itoa n h]
  rfl
theorem read_day (k : Nat) (hk : 20 ≤ k) (t1 : Int) (y m d : Nat) (hv : valid y m d) : value_read.f k (B (dayText y m d)) 5 t1 = some (5, t1, false, num y m d, (⟨#[]⟩ : ByteArray), 0) := by
  unfold value_read.f
  rw [if_neg (by decide), if_neg (by decide), if_neg (by decide), if_pos rfl, (ParseDay_is k hk y m d hv).1]
  rfl
theorem read_dec (k : Nat) (hk : 60 ≤ k) (n : Int) (hn : Fit n) (s : Nat) (hs : s ≤ 18) (x : List UInt8) (hx : num_FormatDec.sgn (decide (n < 0)) (num_FormatDec.pnt s (B (P n.natAbs (s + 1)))) = B x) :
    value_read.f (k + 1) (B x) 3 s = some (3, (s : Int), false, n, (⟨#[]⟩ : ByteArray), 0) := by
  have e := ParseDec_is n hn s hs
  rw [hx] at e
  have e5 := scale_same k hk (v := n) (s := (s : Int)) (by omega) (by omega) hn
  unfold value_read.f
  rw [if_neg (by decide), if_neg (by decide), if_pos rfl, e, Option.bind_some, if_pos rfl, show num_Scale.f (k + 1) (n, (s : Int), (0 : Int)).1 (n, (s : Int), (0 : Int)).2.1 (s : Int) = some (n, 0) from e5]
  rfl
theorem dayText_len (y m d : Nat) (h : valid y m d) : (dayText y m d).length ≤ 256 := by
  have := (ParseDay_is 20 (by omega) y m d h).2
  rw [B_size] at this
  omega
theorem vb_j1 (k : Nat) (hk : 100 ≤ k) (a0 a1 a3 x : Int) (a2 : Bool) (a4 : ByteArray) (hty : tyOk a0 a1) (h : In64 a3) (hs : a0 = 2 → a4 = (⟨#[]⟩ : ByteArray)) (hz : a2 = true → a3 = 0) :
    colonnadelaw02_ValueBack.j1 (k + 1) x false a0 a1 a2 a3 a4 = some true := by
  have e00 : (⟨#[]⟩ : ByteArray).toList = [] := B_toList []
  have hty' := hty
  obtain ⟨g1, g2, g3, g4, g5⟩ := hty'
  rw [colonnadelaw02_ValueBack.j1, if_neg (by decide)]
  by_cases c : a0 = 2
  · subst c
    rw [if_pos rfl]
    obtain rfl := hs rfl
    obtain rfl : a1 = 0 := by rcases g5 with z | z <;> omega
    by_cases ht : tyOk 3 x
    · cases a2 with
      | true =>
        obtain rfl := hz rfl
        obtain ⟨k, rfl⟩ : ∃ q, k = q + 1 := ⟨k - 1, by omega⟩
        rw [cast_null (a0 := 2) k ht (by omega) (by omega) (.inr (.inr (.inr rfl))), Option.bind_some, if_pos rfl]
        rw [show value_Cast.f (k + 1) 3 x true 0 (⟨#[]⟩ : ByteArray) 2 0 = _ from cast_null (a0 := 3) k hty (by omega) (by omega) (.inr (.inr (.inr rfl))), Option.bind_some, if_pos rfl]
        simp
      | false =>
        obtain ⟨k, rfl⟩ : ∃ q, k = q + 4 := ⟨k - 4, by omega⟩
        have ht' := ht
        obtain ⟨t1, t2, t3, t4, t5⟩ := ht'
        have hup : value_Cast.f (k + 4) 2 0 false a3 (⟨#[]⟩ : ByteArray) 3 x = (num_Scale.f (k + 1) a3 0 x).bind fun r => if r.2 = 0 then some (3, x, false, r.1, (⟨#[]⟩ : ByteArray), 0) else some (0, 0, false, 0, (⟨#[]⟩ : ByteArray), r.2) := by
          rw [cast_in (a0 := 2) ht (by omega) (by omega) (.inr (.inr (.inr rfl))), value_Cast.j0, if_neg (by decide), if_neg (by decide), if_neg (by decide), if_neg (by decide), if_neg (by decide), value_Cast.j1, if_neg (by decide), if_neg (by decide), value_Cast.j2]
          unfold value_places.f
          rw [if_neg (by decide), Option.bind_some]
        by_cases hf : Fit a3
        · rw [scale_up k (by omega) (by omega) t3 t4 hf, Int.sub_zero] at hup
          by_cases hg : (-999999999999999999 ≤ a3 * p10 x ∧ a3 * p10 x ≤ 999999999999999999)
          · rw [if_pos hg, Option.bind_some, if_pos rfl] at hup
            rw [hup, Option.bind_some, if_pos rfl]
            have hdn : value_Cast.f (k + 4) 3 x false (a3 * p10 x) (⟨#[]⟩ : ByteArray) 2 0 = some (2, 0, false, a3, (⟨#[]⟩ : ByteArray), 0) := by
              rw [cast_in (a0 := 3) hty (by omega) (by omega) (.inr (.inr (.inr rfl))), value_Cast.j0, if_neg (by decide), if_neg (by decide), if_neg (by decide), if_neg (by decide), if_pos rfl, value_Cast.j1, if_neg (by decide), if_pos rfl]
              unfold value_scaled.f
              rw [if_pos (show x ≥ 0 by omega), Option.bind_some, if_pos (decide_eq_true t4), value_Cast.j2]
              unfold value_places.f
              rw [if_pos rfl, Option.bind_some, show mn (mx x 0) 18 = x from by unfold mn mx; (repeat' split) <;> omega, scale_back k (by omega) t3 t4 hg, Option.bind_some, if_pos rfl]
            rw [hdn, Option.bind_some, if_pos rfl]
            simp
          · rw [if_neg hg, Option.bind_some, if_neg (by decide)] at hup
            rw [hup, Option.bind_some, if_neg (by decide)]
            simp [e00]
        · rw [scale_big k ⟨by omega, by omega⟩ ⟨t3, t4⟩ hf, Option.bind_some, if_neg (by decide)] at hup
          rw [hup, Option.bind_some, if_neg (by decide)]
          simp [e00]
    · rw [cast_no ht, Option.bind_some, if_neg (by decide)]
      simp [e00]
  · rw [if_neg c]
theorem vb_j0 (k : Nat) (hk : 70000 ≤ k) (a0 a1 a3 x : Int) (a2 : Bool) (a4 : ByteArray) (hty : tyOk a0 a1) (h : In64 a3) (hs : a0 = 2 → a4 = (⟨#[]⟩ : ByteArray)) (hz : a2 = true → a3 = 0)
    (v : Bool) (n : Int) (s : ByteArray) (hc1 : value_Cast.f k a0 a1 a2 a3 a4 4 0 = some (4, 0, v, n, s, 0)) (hc2 : value_Cast.f k 4 0 v n s a0 a1 = some (a0, a1, a2, a3, a4, 0)) :
    colonnadelaw02_ValueBack.j0 (k + 1) x false a0 a1 a2 a3 a4 = some true := by
  rw [colonnadelaw02_ValueBack.j0, if_neg (by decide), hc1, Option.bind_some]
  simp only []
  rw [hc2, Option.bind_some]
  simp only [if_true]
  have e : ((!(a0 == a0) || (!(a1 == a1))) || (!(a2 == a2) || (!(a3 == a3) || (!(a4.toList == a4.toList))))) = false := by simp
  rw [e]
  obtain ⟨k, rfl⟩ : ∃ q, k = q + 1 := ⟨k - 1, by omega⟩
  exact vb_j1 k (by omega) a0 a1 a3 x a2 a4 hty h hs hz
theorem ValueBack (s : S25) (x : Int) (w0 : ((Lit.int .i64 s.f0.f0).wf = true ∧ (Lit.int .i64 s.f0.f1).wf = true) ∧ True ∧ (Lit.int .i64 s.f2).wf = true ∧ s.f3.size ≤ 140737488351232) (_wx : (Lit.int .i64 x).wf = true) : ∃ k, colonnadelaw02_ValueBack.f k s.f0.f0 s.f0.f1 s.f1 s.f2 s.f3 x = some true := by
  have w3 := w0.2.2.1
  clear w0
  generalize s.f0.f0 = v0
  generalize s.f0.f1 = v1
  generalize s.f1 = v2
  generalize s.f2 = v3 at w3
  generalize s.f3 = v4
  have h : In64 v3 := bounds_i64 w3
  refine ⟨70002, ?_⟩
  unfold colonnadelaw02_ValueBack.f
  rw [begun02 70002 (by omega), Option.bind_some, if_pos rfl]
  have hbad : ∀ e : Int, e ≠ 0 → (some e).bind (fun t => colonnadelaw02_ValueBack.j0 70002 x (t != 0) v0 v1 v2 v3 v4) = some true := by
    intro e he
    rw [Option.bind_some, show (e != 0) = true from by simpa using he, colonnadelaw02_ValueBack.j0, if_pos rfl, begun02 70001 (by omega)]
    rfl
  have hgood : ∀ (v : Bool) (n : Int) (s : ByteArray), tyOk v0 v1 → (v0 = 2 → v4 = (⟨#[]⟩ : ByteArray)) → (v2 = true → v3 = 0) → value_Cast.f 70001 v0 v1 v2 v3 v4 4 0 = some (4, 0, v, n, s, 0) → value_Cast.f 70001 4 0 v n s v0 v1 = some (v0, v1, v2, v3, v4, 0) →
      (some (0 : Int)).bind (fun t => colonnadelaw02_ValueBack.j0 70002 x (t != 0) v0 v1 v2 v3 v4) = some true := by
    intro v n s g1 g2 g3 g4 g5
    rw [Option.bind_some, show ((0 : Int) != 0) = false from rfl]
    exact vb_j0 70001 (by omega) v0 v1 v3 x v2 v4 g1 h g2 g3 v n s g4 g5
  unfold value_Check.f
  by_cases hty : tyOk v0 v1
  · rw [chk_yes hty]
    simp only [Option.bind_some, if_true]
    have hty' := hty
    obtain ⟨q1, q2, q3, q4, q5⟩ := hty'
    have he : v4.toList = ([] : List UInt8) → v4 = (⟨#[]⟩ : ByteArray) := by
      intro z
      rw [toList_eq] at z
      rw [B_of v4, z]
      rfl
    cases v2 with
    | true =>
      rw [if_pos rfl]
      by_cases c1 : v4.toList = ([] : List UInt8)
      · rw [if_pos c1]
        obtain rfl := he c1
        by_cases c2 : v3 = 0
        · rw [if_pos c2]
          subst c2
          refine hgood true 0 (⟨#[]⟩ : ByteArray) hty (fun _ => rfl) (fun _ => rfl) (cast_null _ ⟨by omega, by omega, by omega, by omega, .inl rfl⟩ q1 q2 (.inr (.inr (.inl rfl)))) (cast_null _ hty (by omega) (by omega) (.inr (.inl rfl)))
        · rw [if_neg c2]; exact hbad 20 (by decide)
      · rw [if_neg c1]; exact hbad 20 (by decide)
    | false =>
      rw [if_neg (by decide)]
      by_cases k1 : v0 = 1
      · subst k1
        rw [if_pos rfl]
        by_cases c1 : v4.toList = ([] : List UInt8)
        · rw [if_pos c1]
          obtain rfl := he c1
          by_cases c2 : v3 = 0
          · rw [if_pos c2]
            subst c2
            exact hgood false 0 _ hty (fun _ => rfl) (fun z => by cases z) (cast_text 70000 q1 q2 (by decide) _ (show_false 69999 v1 _) (by decide)) (cast_read 70000 hty (by decide) (read_false _ _))
          · rw [if_neg c2]
            by_cases c3 : v3 = 1
            · rw [if_pos c3]
              subst c3
              exact hgood false 0 _ hty (fun _ => rfl) (fun z => by cases z) (cast_text 70000 q1 q2 (by decide) _ (show_true 69999 v1 _) (by decide)) (cast_read 70000 hty (by decide) (read_true _ _))
            · rw [if_neg c3]; exact hbad 20 (by decide)
        · rw [if_neg c1]; exact hbad 20 (by decide)
      rw [if_neg k1]
      by_cases k3 : v0 = 3
      · subst k3
        rw [if_pos rfl]
        by_cases c1 : v4.toList = ([] : List UInt8)
        · rw [if_pos c1]
          obtain rfl := he c1
          by_cases c2 : Fit v3
          · rw [fits_yes c2, Option.bind_some, if_pos rfl]
            obtain ⟨s, rfl⟩ := Int.eq_ofNat_of_zero_le q3
            obtain ⟨t, e1, e2, e3⟩ := show_dec 69999 v3 (⟨#[]⟩ : ByteArray) h s (by omega)
            exact hgood false 0 _ hty (fun _ => rfl) (fun z => by cases z) (cast_text 70000 q1 q2 (by decide) _ e3 e2) (cast_read 70000 hty (by decide) (read_dec 69999 (by omega) v3 c2 s (by omega) t e1))
          · rw [fits_no c2, Option.bind_some, if_neg (by decide)]; exact hbad 20 (by decide)
        · rw [if_neg c1]; exact hbad 20 (by decide)
      rw [if_neg k3]
      by_cases k5 : v0 = 5
      · subst k5
        rw [if_pos rfl]
        by_cases c1 : v4.toList = ([] : List UInt8)
        · rw [if_pos c1]
          obtain rfl := he c1
          by_cases c2 : v3 ≥ (-719162)
          · rw [if_pos c2]
            by_cases c3 : v3 ≤ 2932896
            · rw [if_pos c3]
              obtain ⟨y, m, d, hv, hn⟩ := day_of v3 (by omega) c3
              have hv' := hv
              obtain ⟨a1, _, a3, _, a5, _⟩ := hv'
              obtain ⟨y, rfl⟩ := Int.eq_ofNat_of_zero_le (show 0 ≤ y by omega)
              obtain ⟨m, rfl⟩ := Int.eq_ofNat_of_zero_le (show 0 ≤ m by omega)
              obtain ⟨d, rfl⟩ := Int.eq_ofNat_of_zero_le (show 0 ≤ d by omega)
              refine hgood false 0 _ hty (fun _ => rfl) (fun z => by cases z) (cast_text 70000 q1 q2 (by decide) _ (show_day 69999 (by omega) v1 v3 _ h y m d hv hn) (dayText_len y m d hv)) (cast_read 70000 hty (by decide) ?_)
              rw [read_day 70000 (by omega) v1 y m d hv, hn]
            · rw [if_neg c3]; exact hbad 20 (by decide)
          · rw [if_neg c2]; exact hbad 20 (by decide)
        · rw [if_neg c1]; exact hbad 20 (by decide)
      rw [if_neg k5]
      by_cases k4 : v0 = 4
      · subst k4
        rw [if_pos rfl]
        by_cases c2 : v3 = 0
        · rw [if_pos c2]
          subst c2
          by_cases c3 : ((v4.size : Int) ≤ 256)
          · rw [if_pos c3]
            obtain rfl : v1 = 0 := by rcases q5 with z | z <;> omega
            exact hgood false 0 v4 hty (fun z => by omega) (fun z => by cases z) (cast_texts 70000 (by omega)) (cast_texts 70000 (by omega))
          · rw [if_neg c3]; exact hbad 20 (by decide)
        · rw [if_neg c2]; exact hbad 20 (by decide)
      rw [if_neg k4]
      obtain rfl : v0 = 2 := by omega
      by_cases c1 : v4.toList = ([] : List UInt8)
      · rw [if_pos c1]
        obtain rfl := he c1
        exact hgood false 0 _ hty (fun _ => rfl) (fun z => by cases z) (cast_text 70000 q1 q2 (by decide) _ (show_int 69999 v1 v3 _ h) (itoa_len v3 h)) (cast_read 70000 hty (by decide) (read_int _ _ _ h))
      · rw [if_neg c1]; exact hbad 20 (by decide)
  · rw [chk_no hty]
    simp only [Option.bind_some]
    exact hbad 21 (by decide)
end Go.Proofs.YtjpgjggbanpegaaGreatDoor.Pure
