/- Decimals and days of any text, by num and by the reference. -/
import Derived.Test.YtjpgjggbanpegaaGreatDoorPureReads
import Derived.Test.YtjpgjggbanpegaaGreatDoorPureScale
import Derived.Test.YtjpgjggbanpegaaGreatDoorE10
import Derived.Test.YtjpgjggbanpegaaGreatDoorE4
import Derived.Test.YtjpgjggbanpegaaGreatDoorE5
import Derived.Test.YtjpgjggbanpegaaGreatDoorE9
namespace Go.Proofs.YtjpgjggbanpegaaGreatDoor.Pure
open Go.RowKit Go.Proofs.YtjpgjggbanpegaaGreatDoor.E Go.Proofs.YtjpgjggbanpegaaGreatDoorW.PrintWords Go.Proofs.YtjpgjggbanpegaaGreatDoorW.PrintLast Go.Proofs.YtjpgjggbanpegaaGreatDoor.Str Go.Proofs.YtjpgjggbanpegaaGreatDoor.Cal
theorem m46 : (⟨#[46]⟩ : ByteArray).data.toList = [46] := rfl
theorem cutB_0 (t : List UInt8) (h : ∀ c ∈ t, c ≠ 46) : strings_Cut.f (B t) (⟨#[46]⟩ : ByteArray) = some (B t, B [], false) := by
  unfold strings_Cut.f stringslite_Cut.f stringslite_Index.f
  rw [m46, B_data]
  simp only []
  rw [ib_none 46 t h, Option.bind_some, if_neg (by decide), Option.bind_some]
  rfl
theorem cutB_1 (p q : List UInt8) (h : ∀ c ∈ p, c ≠ 46) (hl : (p ++ 46 :: q).length ≤ 200000000000000) : strings_Cut.f (B (p ++ 46 :: q)) (⟨#[46]⟩ : ByteArray) = some (B p, B q, true) := by
  have z : ((⟨#[46]⟩ : ByteArray).size : Int) = 1 := rfl
  simp only [List.length_append, List.length_cons] at hl
  unfold strings_Cut.f stringslite_Cut.f stringslite_Index.f
  rw [m46, B_data]
  simp only []
  rw [ib_at 46 q p h, Option.bind_some, z, w64s p.length (by omega), B_size]
  simp only [List.length_append, List.length_cons]
  rw [if_pos (by omega), if_pos (by omega), if_pos (by omega), if_pos (by omega), if_pos (by omega), Option.bind_some, B_extract, B_extract, Int.toNat_natCast, Int.toNat_natCast]
  have e1 : ((p ++ 46 :: q).take p.length).drop 0 = p := by simp
  have e2 : ((p ++ 46 :: q).take (p.length + (q.length + 1))).drop (p.length + 1) = q := by
    rw [List.take_of_length_le (by simp), show p ++ 46 :: q = (p ++ [46]) ++ q from by simp, show p.length + 1 = (p ++ [46]).length from by simp, List.drop_left]
  rw [e1, e2]
/-- a text up to its first point -/
theorem point_cases : ∀ t : List UInt8, (∀ c ∈ t, c ≠ 46) ∨ ∃ p q, t = p ++ 46 :: q ∧ ∀ c ∈ p, c ≠ 46
  | [] => .inl fun c hc => by cases hc
  | a :: t => by
    by_cases ha : a = 46
    · exact .inr ⟨[], t, by rw [ha]; rfl, fun c hc => by cases hc⟩
    · rcases point_cases t with h | ⟨p, q, e, h⟩
      · refine .inl fun c hc => ?_
        rcases List.mem_cons.1 hc with rfl | hc
        · exact ha
        · exact h c hc
      · refine .inr ⟨a :: p, q, by rw [e]; rfl, fun c hc => ?_⟩
        rcases List.mem_cons.1 hc with rfl | hc
        · exact ha
        · exact h c hc
/-- what digits ahead of a point and behind it are as a decimal -/
def pd4 (wh pt : List UInt8) (b : Bool) : Int × Int × Int :=
  if dg wh = true then (if pt.length ≤ 18 then (if val 0 (wh ++ pt) ≤ 999999999999999999 then (if b = true then -((val 0 (wh ++ pt) : Nat) : Int) else ((val 0 (wh ++ pt) : Nat) : Int), (pt.length : Int), 0) else (0, 0, 10)) else (0, 0, 10)) else (0, 0, 12)
theorem dg_app {a b : List UInt8} (ha : dg a = true) (hb : allD b = true) : allD (a ++ b) = true ∧ a ++ b ≠ [] := by
  obtain ⟨h1, h2⟩ := (dg_iff a).1 ha
  refine ⟨by rw [allD_append, h2, hb]; rfl, fun z => h1 (List.append_eq_nil_iff.1 z).1⟩
theorem ref_j4 (k : Nat) (wh pt : List UInt8) (b : Bool) (hp : allD pt = true) (hl : wh.length + pt.length ≤ 200000000000000) (hk : wh.length + pt.length + 10 ≤ k) : colonnaderef01_ParseDec.j4 (k + 1) b (B wh) (B pt) = some (pd4 wh pt b) := by
  rw [colonnaderef01_ParseDec.j4, refdigits_is k wh (by omega) (by omega), Option.bind_some]
  unfold pd4
  by_cases c : dg wh = true
  · rw [if_pos c, if_pos c]
    by_cases g : pt.length ≤ 18
    · obtain ⟨a1, a2⟩ := dg_app c hp
      have h2 := refread_is k (wh ++ pt) (by rw [List.length_append]; omega) (by rw [List.length_append]; omega) a1 999999999999999999 (by omega)
      rw [show ((999999999999999999 : Nat) : Int) = 999999999999999999 from rfl] at h2
      rw [if_neg (by rw [B_size]; omega), if_pos g, if_pos (by rw [B_size, B_size]; omega), B_append, h2, Option.bind_some]
      by_cases g2 : val 0 (wh ++ pt) ≤ 999999999999999999
      · obtain ⟨k, rfl⟩ : ∃ q, k = q + 1 := ⟨k - 1, by omega⟩
        rw [if_pos g2, if_pos g2, if_pos (decide_eq_true g2)]
        show (colonnaderef01_signed.f (k + 1) ((val 0 (wh ++ pt) : Nat) : Int) b).bind _ = _
        rw [signed_is k _ (by omega) b, Option.bind_some, B_size]
        cases b with
        | true => rfl
        | false => simp [show val 0 (wh ++ pt) ≤ 9223372036854775807 from by omega]
      · rw [if_neg g2, if_neg g2, if_neg (by rw [decide_eq_false g2]; simp)]
    · rw [if_pos (by rw [B_size]; omega), if_neg g]
  · rw [if_neg c, if_neg c]
/-- what a text without its sign is as a decimal -/
def pdec0 (t : List UInt8) (b : Bool) : Int × Int × Int := pd4 t [] b
def pdec1 (p q : List UInt8) (b : Bool) : Int × Int × Int := if dg q = true then pd4 p q b else (0, 0, 12)
theorem ref_loop (p r : List UInt8) (b : Bool) (h : ∀ c ∈ p, c ≠ 46) (hl : p.length ≤ 200000000000000) : ∀ (d k i : Nat), i + d = p.length → colonnaderef01_ParseDec.l0 (k + d) (B (p ++ r)) b (i : Int) = colonnaderef01_ParseDec.l0 k (B (p ++ r)) b (p.length : Int) := by
  intro d
  induction d with
  | zero =>
    intro k i hi
    rw [Nat.add_zero, show i = p.length from by omega]
  | succ d ih =>
    intro k i hi
    have hlt : i < p.length := by omega
    have hlt2 : i < (p ++ r).length := by rw [List.length_append]; omega
    have hc : (p ++ r).getD i 0 ≠ 46 := by
      rw [List.getD_eq_getElem?_getD, List.getElem?_append_left hlt, List.getElem?_eq_getElem hlt]
      exact h _ (List.getElem_mem hlt)
    rw [show k + (d + 1) = (k + d) + 1 from by omega, colonnaderef01_ParseDec.l0, if_pos (by rw [B_size]; omega), if_pos (by omega), bt_B _ i hlt2, if_neg, w64s i (by omega), ih k (i + 1) (by omega)]
    intro z
    exact hc (UInt8.toNat_inj.1 (by have : (46 : UInt8).toNat = 46 := rfl; omega))
theorem ref_j1_0 (k : Nat) (t : List UInt8) (b : Bool) (h : ∀ c ∈ t, c ≠ 46) (hl : t.length ≤ 200000000000000) (hk : 3 * t.length + 100 ≤ k) : colonnaderef01_ParseDec.j1 (k + 1) (B t) b = some (pdec0 t b) := by
  obtain ⟨m, rfl⟩ : ∃ m, k = (m + 3) + t.length := ⟨k - t.length - 3, by omega⟩
  have hlp := ref_loop t [] b h hl t.length (m + 3) 0 (by omega)
  rw [List.append_nil] at hlp
  rw [colonnaderef01_ParseDec.j1]
  show colonnaderef01_ParseDec.l0 (m + 3 + t.length) (B t) b ((0 : Nat) : Int) = _
  rw [hlp, colonnaderef01_ParseDec.l0, if_neg (by rw [B_size]; omega), colonnaderef01_ParseDec.j3, if_pos (by omega), if_pos (by rw [B_size]; omega), if_neg (by rw [B_size]; omega), B_extract, Int.toNat_natCast, List.drop_zero, List.take_length, show (⟨#[]⟩ : ByteArray) = B [] from rfl, ref_j4 m t [] b rfl (by simp; omega) (by simp; omega)]
  rfl
theorem ref_j1_1 (k : Nat) (p q : List UInt8) (b : Bool) (h : ∀ c ∈ p, c ≠ 46) (hl : (p ++ 46 :: q).length ≤ 200000000000000) (hk : 3 * (p ++ 46 :: q).length + 100 ≤ k) : colonnaderef01_ParseDec.j1 (k + 1) (B (p ++ 46 :: q)) b = some (pdec1 p q b) := by
  simp only [List.length_append, List.length_cons] at hl hk
  obtain ⟨m, rfl⟩ : ∃ m, k = (m + 3) + p.length := ⟨k - p.length - 3, by omega⟩
  have hlp := ref_loop p (46 :: q) b h (by omega) p.length (m + 3) 0 (by omega)
  have e46 : bt (B (p ++ 46 :: q)) (p.length : Int) = 46 := by
    rw [bt_B _ p.length (by simp), List.getD_eq_getElem?_getD, List.getElem?_append_right (Nat.le_refl _), Nat.sub_self]
    rfl
  have e1 : ((p ++ 46 :: q).take p.length).drop 0 = p := by simp
  have e2 : ((p ++ 46 :: q).take (p.length + (q.length + 1))).drop (p.length + 1) = q := by
    rw [List.take_of_length_le (by simp), show p ++ 46 :: q = (p ++ [46]) ++ q from by simp, show p.length + 1 = (p ++ [46]).length from by simp, List.drop_left]
  have sz : (B (p ++ 46 :: q)).size = p.length + (q.length + 1) := by rw [B_size, List.length_append, List.length_cons]
  rw [colonnaderef01_ParseDec.j1]
  show colonnaderef01_ParseDec.l0 (m + 3 + p.length) (B (p ++ 46 :: q)) b ((0 : Nat) : Int) = _
  rw [hlp, colonnaderef01_ParseDec.l0, sz, if_pos (by omega), if_pos (by omega), if_pos e46, colonnaderef01_ParseDec.j3, sz, if_pos (by omega), if_pos (by omega), if_pos (by omega), w64s p.length (by omega), if_pos (by omega), if_pos (by omega), B_extract, B_extract, Int.toNat_natCast, Int.toNat_natCast, e1, e2, refdigits_is (m + 1) q (by omega) (by omega), Option.bind_some]
  unfold pdec1
  by_cases c : dg q = true
  · rw [if_pos c, if_pos c]
    exact ref_j4 m p q b ((dg_iff q).1 c).2 (by omega) (by omega)
  · rw [if_neg c, if_neg c]
theorem num_fin (b : Bool) (l wh pt : List UInt8) (hw : dg wh = true) (hp : allD pt = true) (hl : wh.length + pt.length ≤ 200000000000000) (h18 : pt.length ≤ 18) (h0 : 0 < l.length) (hb : (bt (B l) 0 == 45) = b) :
    num_ParseDec.fin (B l) (B wh) (B pt) = some (pd4 wh pt b) := by
  obtain ⟨a1, a2⟩ := dg_app hw hp
  unfold num_ParseDec.fin pd4
  rw [if_pos (by rw [B_size, B_size]; omega), B_append, B_data, Lib.parseIntB_64, atoi_digits _ a1 a2, if_pos hw, if_pos h18]
  generalize val 0 (wh ++ pt) = v
  by_cases g : v < 9223372036854775808
  · rw [if_pos g]
    simp only []
    unfold num_Fits.f
    rw [if_pos (by omega), Option.bind_some]
    by_cases g2 : v ≤ 999999999999999999
    · rw [decide_eq_true (by omega), if_pos rfl, if_pos (by rw [B_size]; exact h0), if_pos g2, B_size]
      cases b with
      | true => rw [if_pos (beq_iff_eq.1 hb), if_pos rfl, wr (by omega) (by omega)]
      | false => rw [if_neg (beq_eq_false_iff_ne.1 hb), if_neg (by simp)]
    · rw [decide_eq_false (by omega), if_neg (by simp), if_neg g2]
  · rw [if_neg g]
    simp only []
    rw [if_neg (by omega)]
theorem dg_len {a : List UInt8} (h : dg a = true) : 0 < a.length := by
  cases a with
  | nil => exact absurd h (by decide)
  | cons c r => simp
theorem num_dec0 (l t : List UInt8) (b : Bool) (ht : strings_TrimPrefix.f (B l) (⟨#[45]⟩ : ByteArray) = some (B t)) (hlt : t.length ≤ l.length) (hl : l.length ≤ 200000000000000) (hb : 0 < l.length → (bt (B l) 0 == 45) = b) (h : ∀ c ∈ t, c ≠ 46) :
    num_ParseDec.f (B l) = some (pdec0 t b) := by
  unfold num_ParseDec.f
  rw [ht, Option.bind_some, cutB_0 t h, Option.bind_some]
  simp only []
  rw [digits_is t (by omega), Option.bind_some]
  by_cases c : dg t = true
  · rw [if_pos c, if_neg (by simp), if_pos (by rw [B_size]; simp)]
    have := dg_len c
    exact num_fin b l t [] c rfl (by simp; omega) (by simp) (by omega) (hb (by omega))
  · rw [if_neg c]
    unfold pdec0 pd4
    rw [if_neg c]
theorem num_dec1 (l p q : List UInt8) (b : Bool) (ht : strings_TrimPrefix.f (B l) (⟨#[45]⟩ : ByteArray) = some (B (p ++ 46 :: q))) (hlt : (p ++ 46 :: q).length ≤ l.length) (hl : l.length ≤ 200000000000000) (hb : 0 < l.length → (bt (B l) 0 == 45) = b) (h : ∀ c ∈ p, c ≠ 46) :
    num_ParseDec.f (B l) = some (pdec1 p q b) := by
  have hlt' := hlt
  simp only [List.length_append, List.length_cons] at hlt'
  unfold num_ParseDec.f
  rw [ht, Option.bind_some, cutB_1 p q h (by omega), Option.bind_some]
  simp only []
  rw [digits_is p (by omega), Option.bind_some]
  unfold pdec1
  by_cases c : dg p = true
  · rw [if_pos c, if_pos trivial, digits_is q (by omega), Option.bind_some]
    by_cases d : dg q = true
    · rw [if_pos d, if_pos d]
      by_cases g : q.length ≤ 18
      · rw [if_pos (by rw [B_size]; exact g)]
        exact num_fin b l p q c ((dg_iff q).1 d).2 (by omega) g (by omega) (hb (by omega))
      · rw [if_neg (by rw [B_size]; exact g)]
        unfold pd4
        rw [if_pos c, if_neg g]
    · rw [if_neg d, if_neg d]
  · rw [if_neg c]
    unfold pd4
    rw [if_neg c]
    split <;> rfl
theorem pd4_64 (wh pt : List UInt8) (b : Bool) : In64 (pd4 wh pt b).1 := by
  unfold pd4 In64
  (repeat' split) <;> simp only [] <;> omega
theorem pdec1_64 (p q : List UInt8) (b : Bool) : In64 (pdec1 p q b).1 := by
  unfold pdec1
  split
  · exact pd4_64 p q b
  · exact ⟨by decide, by decide⟩
theorem ParseDec_t (k : Nat) (l t : List UInt8) (b : Bool) (ht : strings_TrimPrefix.f (B l) (⟨#[45]⟩ : ByteArray) = some (B t)) (hlt : t.length ≤ l.length) (hl : l.length ≤ 200000000000000) (hk : 3 * l.length + 200 ≤ k) (hb : 0 < l.length → (bt (B l) 0 == 45) = b) :
    ∃ r, num_ParseDec.f (B l) = some r ∧ colonnaderef01_ParseDec.j1 (k + 1) (B t) b = some r ∧ In64 r.1 := by
  rcases point_cases t with h | ⟨p, q, rfl, h⟩
  · exact ⟨_, num_dec0 l t b ht hlt hl hb h, ref_j1_0 k t b h (by omega) (by omega), pd4_64 _ _ _⟩
  · exact ⟨_, num_dec1 l p q b ht hlt hl hb h, ref_j1_1 k p q b h (by omega) (by omega), pdec1_64 _ _ _⟩
theorem ParseDec_both (k : Nat) (l : List UInt8) (hl : l.length ≤ 200000000000000) (hk : 3 * l.length + 300 ≤ k) : ∃ r, num_ParseDec.f (B l) = some r ∧ colonnaderef01_ParseDec.f k (B l) = some r ∧ In64 r.1 := by
  obtain ⟨k, rfl⟩ : ∃ q, k = q + 2 := ⟨k - 2, by omega⟩
  unfold colonnaderef01_ParseDec.f
  rcases sign_cases l with ⟨r, rfl⟩ | h
  · have hl' := hl
    have hk' := hk
    rw [List.length_cons] at hl' hk'
    obtain ⟨x, x1, x2, x3⟩ := ParseDec_t k (45 :: r) r true (tp_yes r) (by simp) hl (by rw [List.length_cons]; omega) (fun _ => bt_45 r)
    refine ⟨x, x1, ?_, x3⟩
    rw [if_pos (by rw [B_size, List.length_cons]; omega), if_pos (by rw [B_size, List.length_cons]; omega), bt_45, colonnaderef01_ParseDec.j0, if_pos rfl, if_pos (by rw [B_size, List.length_cons]; omega), B_extract, B_size, List.take_of_length_le (Nat.le_refl _)]
    exact x2
  · obtain ⟨x, x1, x2, x3⟩ := ParseDec_t k l l false (tp_no l h) (Nat.le_refl _) hl (by omega) (fun z => bt_ne l h z)
    refine ⟨x, x1, ?_, x3⟩
    by_cases z : 0 < l.length
    · rw [if_pos (by rw [B_size]; omega), if_pos (by rw [B_size]; omega), bt_ne l h z, colonnaderef01_ParseDec.j0, if_neg (by simp)]
      exact x2
    · rw [if_neg (by rw [B_size]; omega), colonnaderef01_ParseDec.j0, if_neg (by simp)]
      exact x2
theorem len10 (l : List UInt8) (h : l.length = 10) : ∃ a1 a2 a3 a4 x b1 b2 y c1 c2, l = [a1, a2, a3, a4, x, b1, b2, y, c1, c2] := by
  match l, h with
  | [a1, a2, a3, a4, x, b1, b2, y, c1, c2], _ => exact ⟨a1, a2, a3, a4, x, b1, b2, y, c1, c2, rfl⟩
theorem val2 (a b : UInt8) (h : allD [a, b] = true) : val 0 [a, b] ≤ 99 := by
  simp only [allD_cons, Bool.and_eq_true] at h
  obtain ⟨h1, h2, _⟩ := h
  have := (isDg_iff a).1 h1
  have := (isDg_iff b).1 h2
  show (0 * 10 + (a.toNat - 48)) * 10 + (b.toNat - 48) ≤ 99
  omega
theorem val4 (a b c d : UInt8) (h : allD [a, b, c, d] = true) : val 0 [a, b, c, d] ≤ 9999 := by
  simp only [allD_cons, Bool.and_eq_true] at h
  obtain ⟨h1, h2, h3, h4, _⟩ := h
  have := (isDg_iff a).1 h1
  have := (isDg_iff b).1 h2
  have := (isDg_iff c).1 h3
  have := (isDg_iff d).1 h4
  show (((0 * 10 + (a.toNat - 48)) * 10 + (b.toNat - 48)) * 10 + (c.toNat - 48)) * 10 + (d.toNat - 48) ≤ 9999
  omega
theorem dg_eq (l : List UInt8) (h : l ≠ []) : dg l = allD l := by unfold dg; rw [decide_eq_true h, Bool.true_and]
theorem ParseDay_both (k : Nat) (l : List UInt8) (hk : 100 ≤ k) : ∃ r, num_ParseDay.f k (B l) = some r ∧ colonnaderef01_ParseDay.f k (B l) = some r := by
  obtain ⟨k, rfl⟩ : ∃ q, k = q + 1 := ⟨k - 1, by omega⟩
  unfold num_ParseDay.f colonnaderef01_ParseDay.f
  by_cases hz : l.length = 10
  · obtain ⟨a1, a2, a3, a4, x, b1, b2, y, c1, c2, rfl⟩ := len10 l hz
    have sz : (B [a1, a2, a3, a4, x, b1, b2, y, c1, c2]).size = 10 := by rw [B_size]; rfl
    have x1 : (B [a1, a2, a3, a4, x, b1, b2, y, c1, c2]).extract 0 4 = B [a1, a2, a3, a4] := by rw [B_extract]; rfl
    have x2 : (B [a1, a2, a3, a4, x, b1, b2, y, c1, c2]).extract 5 7 = B [b1, b2] := by rw [B_extract]; rfl
    have x3 : (B [a1, a2, a3, a4, x, b1, b2, y, c1, c2]).extract 8 10 = B [c1, c2] := by rw [B_extract]; rfl
    generalize B [a1, a2, a3, a4, x, b1, b2, y, c1, c2] = S at sz x1 x2 x3 ⊢
    have x3' : S.extract 8 S.size = B [c1, c2] := by rw [sz]; exact x3
    have j12 : colonnaderef01_ParseDay.j0 (k + 1) S true = some (0, 12) := by rw [colonnaderef01_ParseDay.j0, if_pos rfl]
    have z10 : (S.size : Int) = 10 := by omega
    have z4 : (4 : Int) < (S.size : Int) := by omega
    have z7 : (7 : Int) < (S.size : Int) := by omega
    have y4 : (4 : Int) ≤ (S.size : Int) := by omega
    have y7 : (7 : Int) ≤ (S.size : Int) := by omega
    have y8 : (8 : Int) ≤ (S.size : Int) := by omega
    have o4 : (0 : Nat) ≤ 4 := by omega
    have o57 : (5 : Nat) ≤ 7 := by omega
    rw [if_pos sz, if_pos z10, if_pos z4]
    by_cases c4 : bt S 4 = 45
    · rw [if_pos c4, if_pos c4, if_pos z7]
      by_cases c7 : bt S 7 = 45
      · rw [if_pos c7, if_pos c7, if_pos o4, if_pos y4, x1, x2, x3, x3', B_append, B_append,
          digits_is (([a1, a2, a3, a4] ++ [b1, b2]) ++ [c1, c2]) (by simp), Option.bind_some, dg_eq (([a1, a2, a3, a4] ++ [b1, b2]) ++ [c1, c2]) (by simp), allD_append, allD_append,
          refdigits_is (k + 1) [a1, a2, a3, a4] (by simp) (by simp; omega), Option.bind_some, dg_eq [a1, a2, a3, a4] (by simp)]
        by_cases d1 : allD [a1, a2, a3, a4] = true
        · rw [if_pos d1, if_pos o57, if_pos y7, refdigits_is (k + 1) [b1, b2] (by simp) (by simp; omega), Option.bind_some, dg_eq [b1, b2] (by simp)]
          by_cases d2 : allD [b1, b2] = true
          · rw [if_pos d2, if_pos y8, refdigits_is (k + 1) [c1, c2] (by simp) (by simp; omega), Option.bind_some, dg_eq [c1, c2] (by simp)]
            by_cases d3 : allD [c1, c2] = true
            · have v1 := val4 a1 a2 a3 a4 d1
              have v2 := val2 b1 b2 d2
              have v3 := val2 c1 c2 d3
              have r1 := refread_is k [a1, a2, a3, a4] (by simp) (by simp; omega) d1 9999 (by omega)
              have r2 := refread_is k [b1, b2] (by simp) (by simp; omega) d2 99 (by omega)
              have r3 := refread_is k [c1, c2] (by simp) (by simp; omega) d3 99 (by omega)
              rw [if_pos v1, decide_eq_true v1] at r1
              rw [if_pos v2, decide_eq_true v2] at r2
              rw [if_pos v3, decide_eq_true v3] at r3
              rw [show ((9999 : Nat) : Int) = 9999 from rfl] at r1
              rw [show ((99 : Nat) : Int) = 99 from rfl] at r2 r3
              have q1 := day_atoi [a1, a2, a3, a4] _ d1 rfl (by simp) (by omega)
              have q2 := day_atoi [b1, b2] _ d2 rfl (by simp) (by omega)
              have q3 := day_atoi [c1, c2] _ d3 rfl (by simp) (by omega)
              generalize val 0 [a1, a2, a3, a4] = Y at v1 r1 q1
              generalize val 0 [b1, b2] = M at v2 r2 q2
              generalize val 0 [c1, c2] = D at v3 r3 q3
              have hday : ∃ r, num_Day.f (k + 1) (Y : Int) (M : Int) (D : Int) = some r ∧ colonnaderef01_Day.f k (Y : Int) (M : Int) (D : Int) = some r := by
                by_cases hv : valid (Y : Int) (M : Int) (D : Int)
                · exact ⟨_, (Day_is (k + 1) (by omega) _ _ _ hv).1, (Day_is k (by omega) _ _ _ hv).2⟩
                · exact ⟨_, (Day_no (k + 1) (by omega) _ _ _ hv).1, (Day_no k (by omega) _ _ _ hv).2⟩
              obtain ⟨r, g1, g2⟩ := hday
              refine ⟨r, ?_, ?_⟩
              · rw [d1, d2, d3, if_pos (by rfl)]
                unfold num_ParseDay.day
                rw [x1, x2, x3, q1, q2, q3, Option.bind_some, Option.bind_some, Option.bind_some]
                exact g1
              · rw [d3, colonnaderef01_ParseDay.j0, if_neg (by simp), if_pos o4, if_pos y4, x1, r1, Option.bind_some, if_pos o57, if_pos y7, x2, r2, Option.bind_some, if_pos y8, x3', r3, Option.bind_some]
                simp only []
                rw [wr (by omega) (by omega), wr (by omega) (by omega), wr (by omega) (by omega), g2, Option.bind_some]
            · refine ⟨(0, 12), by rw [if_neg (by simp [d3])], ?_⟩
              rw [Bool.eq_false_iff.2 d3]
              exact j12
          · refine ⟨(0, 12), by rw [if_neg (by simp [d2])], ?_⟩
            rw [if_neg d2]
            exact j12
        · refine ⟨(0, 12), by rw [if_neg (by simp [d1])], ?_⟩
          rw [if_neg d1]
          exact j12
      · rw [if_neg c7, if_neg c7]
        exact ⟨_, rfl, j12⟩
    · rw [if_neg c4, if_neg c4]
      exact ⟨_, rfl, j12⟩
  · refine ⟨(0, 12), by rw [if_neg (by rw [B_size]; exact hz)], ?_⟩
    rw [if_neg (by rw [B_size]; omega), colonnaderef01_ParseDay.j0, if_pos rfl]
end Go.Proofs.YtjpgjggbanpegaaGreatDoor.Pure
