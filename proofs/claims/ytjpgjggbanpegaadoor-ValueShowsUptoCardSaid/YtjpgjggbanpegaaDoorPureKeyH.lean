/- Keys and hashes of values: the printed functions and the reference say the same, for values that are not too great. -/
import Derived.Test.YtjpgjggbanpegaaDoorPureShow
import Derived.Test.YtjpgjggbanpegaaDoorK6
import Derived.Test.YtjpgjggbanpegaaDoorK7
namespace Go.Proofs.YtjpgjggbanpegaaDoor.Pure
open Go.RowKit Go.Proofs.YtjpgjggbanpegaaDoor.K Go.Proofs.YtjpgjggbanpegaaDoorW.PrintWords Go.Proofs.YtjpgjggbanpegaaDoorW.PrintLast Go.Proofs.YtjpgjggbanpegaaDoor.Str Go.Proofs.YtjpgjggbanpegaaDoor.Cal
/-- a value's numbers are of 64 bits, its text is not too great -/
def fit (v : Val) : Prop := In64 v.f0.f0 ∧ In64 v.f0.f1 ∧ In64 v.f2 ∧ v.f3.size ≤ 67108864
theorem one_keyB (v : Val) : value_Key.one v = keyB v.f0.f0 v.f0.f1 v.f1 v.f2 v.f3.data.toList := by
  unfold value_Key.one keyB value_Key.sc keyS
  rw [sizeS]
theorem itoa_le (n : Int) (h : In64 n) : (Lib.itoa n).length ≤ 21 := Lib.itoa_length_le n h.1 h.2
theorem one_le (v : Val) (h : fit v) : (value_Key.one v).length ≤ 67108964 := by
  obtain ⟨h1, h2, h3, h4⟩ := h
  have a1 := itoa_le _ h1
  have a3 := itoa_le _ h3
  have a4 := itoa_le (v.f3.size : Int) ⟨by omega, by omega⟩
  have hs : 0 ≤ value_Key.sc v.f0.f1 ∧ value_Key.sc v.f0.f1 ≤ 99 := by unfold value_Key.sc; split <;> omega
  have b1 := itoa_le (value_Key.sc v.f0.f1 / 10) ⟨by omega, by omega⟩
  have b2 := itoa_le (value_Key.sc v.f0.f1 % 10) ⟨by omega, by omega⟩
  have b5 := sizeS v.f3
  unfold value_Key.one
  simp only [List.length_append]
  split <;> split <;> (try split) <;> simp only [List.length_append, List.length_cons, List.length_nil] <;> omega
theorem all_le (l : List Val) (h : ∀ v ∈ l, fit v) : (value_Key.all l).length ≤ l.length * 67108964 := by
  induction l with
  | nil => simp [value_Key.all]
  | cons v l ih =>
    have h1 := one_le v (h v (by simp))
    have h2 := ih (fun x hx => h x (List.mem_cons_of_mem _ hx))
    have e : value_Key.all (v :: l) = value_Key.one v ++ value_Key.all l := rfl
    rw [e, List.length_append, List.length_cons, Nat.add_mul]
    omega
def bulk (l : List Val) : Prop := l.length ≤ 1400000 ∧ ∀ v ∈ l, fit v
theorem all_bd (l : List Val) (h : bulk l) : (value_Key.all l).length ≤ 100000000000000 := by
  have h1 := all_le l h.2
  have h2 := h.1
  omega
theorem Key_is (l : List Val) (h : bulk l) : value_Key.f l = some (B (value_Key.all l)) := by
  have hb := all_bd l h
  unfold value_Key.f
  rw [if_pos]
  · rfl
  · refine ⟨List.all_eq_true.2 fun v hv => ?_, by omega⟩
    obtain ⟨⟨a1, a2⟩, _, ⟨a3, a4⟩, a5⟩ := h.2 v hv
    unfold value_Key.ok
    simp only [Bool.and_eq_true, decide_eq_true_eq]
    exact ⟨⟨⟨⟨a1, a2⟩, a3⟩, a4⟩, by omega⟩
theorem rdV (l : List Val) (i : Nat) (h : i < l.length) : rd_T25 l (i : Int) = l[i] := by
  unfold rd_T25
  rw [Int.toNat_natCast, List.getD_eq_getElem?_getD, List.getElem?_eq_getElem h]; rfl
theorem all_drop (l : List Val) (i : Nat) (h : i < l.length) : value_Key.all (l.drop i) = value_Key.one l[i] ++ value_Key.all (l.drop (i + 1)) := by
  rw [List.drop_eq_getElem_cons h]; rfl
theorem dg2 (n : Int) (h0 : 0 ≤ n) (h : n ≤ 99) : strOfNums [(wrap64 (48 + (wrap64 (Int.tdiv n 10)))) % 256, (wrap64 (48 + (Int.tmod n 10))) % 256] = B (Lib.itoa (n / 10) ++ Lib.itoa (n % 10)) := by
  rw [itoa_digit (n / 10) (by omega) (by omega), itoa_digit (n % 10) (by omega) (by omega), B_nums, Int.tdiv_eq_ediv_of_nonneg h0, Int.tmod_eq_emod_of_nonneg h0, wr (x := n / 10) (by omega) (by omega), wr (by omega) (by omega), wr (by omega) (by omega)]
  have e1 : (48 + n / 10) % 256 = 48 + n / 10 := by omega
  have e2 : (48 + n % 10) % 256 = 48 + n % 10 := by omega
  rw [e1, e2]
  have e3 : (48 + n / 10).toNat = 48 + (n / 10).toNat := by omega
  have e4 : (48 + n % 10).toNat = 48 + (n % 10).toNat := by omega
  simp only [List.map_cons, List.map_nil, e3, e4]
  rfl
theorem dg99 : strOfNums [48 + ((99 : Int) / 10), 48 + ((99 : Int) % 10)] = B (Lib.itoa (99 / 10) ++ Lib.itoa (99 % 10)) := by
  rw [itoa_digit (99 / 10) (by omega) (by omega), itoa_digit (99 % 10) (by omega) (by omega), B_nums]
  rfl
/-- the rest behind the digits -/
def tl (nu : Bool) (kd n : Int) (s : ByteArray) : List UInt8 := if nu = true then [110] else if kd = 4 then 118 :: (Lib.itoa (s.size : Int) ++ 58 :: s.data.toList) else 118 :: (Lib.itoa n ++ [59])
theorem j1_is (k : Nat) (hk : 2000 ≤ k) (l : List Val) (acc : List UInt8) (i : Nat) (kd a0 a1 n : Int) (nu : Bool) (s : ByteArray) (hn : In64 n) (hs : s.size ≤ 67108864) (hi : i ≤ 1000000000) (ha : acc.length ≤ 110000000000000) :
    colonnaderef02_Key.j1 (k + 1) l (B acc) (i : Int) kd a0 a1 nu n s = colonnaderef02_Key.l0 k l (B (acc ++ tl nu kd n s)) ((i + 1 : Nat) : Int) := by
  have a3 := itoa_le _ hn
  have a4 := itoa_le (s.size : Int) ⟨by omega, by omega⟩
  have e110 : (⟨#[110]⟩ : ByteArray) = B [110] := rfl
  have e118 : (⟨#[118]⟩ : ByteArray) = B [118] := rfl
  have e58 : (⟨#[58]⟩ : ByteArray) = B [58] := rfl
  have e59 : (⟨#[59]⟩ : ByteArray) = B [59] := rfl
  have es := B_of s
  have hz := sizeS s
  rw [colonnaderef02_Key.j1, w64s i (by omega), e110, e118, e58, e59]
  unfold tl
  by_cases c : nu = true
  · rw [if_pos c, if_pos c, if_pos (by rw [B_size]; omega), B_append]
  · rw [if_neg c, if_neg c]
    by_cases d : kd = 4
    · rw [if_pos d, if_pos d, refFormatInt_is k (by omega) _ ⟨by omega, by omega⟩, Option.bind_some]
      generalize s.data.toList = t at es hz ⊢
      subst es
      simp only [B_append, B_size, List.length_append, List.length_cons, List.length_nil] at hz a4 hs ⊢
      rw [if_pos (by omega), if_pos (by omega), if_pos (by omega), if_pos (by omega)]
      simp
    · rw [if_neg d, if_neg d, refFormatInt_is k (by omega) _ hn, Option.bind_some]
      simp only [B_append, B_size, List.length_append, List.length_cons, List.length_nil]
      rw [if_pos (by omega), if_pos (by omega), if_pos (by omega)]
      simp
theorem refKey_loop (l : List Val) (hb : bulk l) : ∀ (d k i : Nat) (acc : List UInt8), i + d = l.length → acc.length + (value_Key.all (l.drop i)).length ≤ 100000000000000 → 2 * d + 3000 ≤ k →
    colonnaderef02_Key.l0 k l (B acc) (i : Int) = some (B (acc ++ value_Key.all (l.drop i))) := by
  intro d
  have hl := hb.1
  induction d with
  | zero =>
    intro k i acc h ha hk
    obtain ⟨k, rfl⟩ : ∃ q, k = q + 1 := ⟨k - 1, by omega⟩
    rw [colonnaderef02_Key.l0, if_neg (by omega), List.drop_of_length_le (by omega)]
    simp [value_Key.all]
  | succ d ih =>
    intro k i acc h ha hk
    obtain ⟨k, rfl⟩ : ∃ q, k = q + 1 + 1 := ⟨k - 2, by omega⟩
    have hi : i < l.length := by omega
    have hf := hb.2 l[i] (List.getElem_mem hi)
    rw [all_drop l i hi] at ha ⊢
    rw [List.length_append] at ha
    rw [colonnaderef02_Key.l0, if_pos (by omega), if_pos (by omega), rdV l i hi]
    obtain ⟨v, hv⟩ : ∃ v, l[i] = v := ⟨_, rfl⟩
    rw [hv] at hf ha ⊢
    obtain ⟨⟨⟨kd, sc⟩, nu, n, s⟩⟩ : ∃ _v : Val, True := ⟨v, trivial⟩
    clear kd sc nu n s
    obtain ⟨⟨kd, sc⟩, nu, n, s⟩ := v
    obtain ⟨h1, h2, h3, h4⟩ := hf
    simp only at h1 h2 h3 h4 ⊢
    have a1 := itoa_le _ h1
    have hone : value_Key.one ⟨⟨kd, sc⟩, nu, n, s⟩ = Lib.itoa kd ++ ((if kd = 3 then Lib.itoa (value_Key.sc sc / 10) ++ Lib.itoa (value_Key.sc sc % 10) else []) ++ tl nu kd n s) := rfl
    rw [hone] at ha ⊢
    simp only [List.length_append] at ha
    have go : ∀ mid : List UInt8, mid = (if kd = 3 then Lib.itoa (value_Key.sc sc / 10) ++ Lib.itoa (value_Key.sc sc % 10) else []) →
        colonnaderef02_Key.j1 (k + 1) l (B (acc ++ Lib.itoa kd ++ mid)) (i : Int) kd kd sc nu n s = some (B (acc ++ (Lib.itoa kd ++ ((if kd = 3 then Lib.itoa (value_Key.sc sc / 10) ++ Lib.itoa (value_Key.sc sc % 10) else []) ++ tl nu kd n s) ++ value_Key.all (l.drop (i + 1))))) := by
      intro mid hm
      rw [← hm] at ha ⊢
      rw [j1_is k (by omega) l _ i kd kd sc n nu s h3 h4 (by omega) (by simp only [List.length_append]; omega), ih k (i + 1) _ (by omega) (by simp only [List.length_append]; omega) (by omega)]
      simp [List.append_assoc]
    rw [refFormatInt_is (k + 1) (by omega) _ h1, Option.bind_some, if_pos (by rw [B_size, B_size]; omega), B_append]
    by_cases c : kd = 3
    · rw [if_pos c] at ha go
      rw [if_pos c, if_pos c]
      have hs : 0 ≤ value_Key.sc sc ∧ value_Key.sc sc ≤ 99 := by unfold value_Key.sc; split <;> omega
      simp only [List.length_append] at ha
      have go' := go _ rfl
      by_cases c1 : sc < 0
      · have e : value_Key.sc sc = 99 := by unfold value_Key.sc; rw [if_neg (by omega)]
        rw [e] at go' ha
        rw [if_pos c1, Option.bind_some, dg99, B_size, B_size, if_pos (by simp only [List.length_append]; omega), B_append, e]
        exact go'
      · rw [if_neg c1]
        by_cases c2 : sc > 18
        · have e : value_Key.sc sc = 99 := by unfold value_Key.sc; rw [if_neg (by omega)]
          rw [e] at go' ha
          rw [if_pos c2, Option.bind_some, dg99, B_size, B_size, if_pos (by simp only [List.length_append]; omega), B_append, e]
          exact go'
        · have e : value_Key.sc sc = sc := by unfold value_Key.sc; rw [if_pos (by omega)]
          rw [e] at go' ha hs
          rw [if_neg c2, Option.bind_some, dg2 sc hs.1 hs.2, B_size, B_size, if_pos (by simp only [List.length_append]; omega), B_append, e]
          exact go'
    · have go' := go _ rfl
      rw [if_neg c] at go' ⊢
      rw [List.append_nil] at go'
      rw [if_neg c]
      exact go'
theorem refKey_is (k : Nat) (l : List Val) (hb : bulk l) (hk : 2 * l.length + 3000 ≤ k) : colonnaderef02_Key.f k l = some (B (value_Key.all l)) := by
  have h := refKey_loop l hb l.length k 0 [] (by omega) (by have := all_bd l hb; simp; omega) (by omega)
  unfold colonnaderef02_Key.f
  rw [show (⟨#[]⟩ : ByteArray) = B [] from rfl]
  simpa using h
theorem hash_loop (l : List UInt8) (hl : l.length ≤ 100000000000000) : ∀ (d k i : Nat) (z : Int), i + d = l.length → d < k → colonnaderef02_Hash.l0 k z (B l) (i : Int) = some ((l.drop i).foldl value_Hash.step z) := by
  intro d
  induction d with
  | zero =>
    intro k i z h hk
    obtain ⟨k, rfl⟩ : ∃ q, k = q + 1 := ⟨k - 1, by omega⟩
    rw [colonnaderef02_Hash.l0, if_neg (by rw [B_size]; omega), List.drop_of_length_le (by omega)]
    rfl
  | succ d ih =>
    intro k i z h hk
    obtain ⟨k, rfl⟩ : ∃ q, k = q + 1 := ⟨k - 1, by omega⟩
    have hi : i < l.length := by omega
    have hc := UInt8.toNat_lt (l.getD i 0)
    rw [colonnaderef02_Hash.l0, if_pos (by rw [B_size]; omega), if_pos (by omega), btB l i hi, w64s i (by omega), ih k (i + 1) _ (by omega) (by omega), getD_cons_drop hi, List.foldl_cons]
    unfold value_Hash.step
    rw [show IntKind.u64.wrap (((l.getD i 0).toNat : Nat) : Int) = ((l.getD i 0).toNat : Int) from by rw [IntKind.wrap_u64]; omega]
theorem Hash_both (k : Nat) (z : Int) (l : List Val) (hb : bulk l) (hk : 110000000000000 ≤ k) : ∃ r, value_Hash.f z l = some r ∧ colonnaderef02_Hash.f k z l = some r := by
  have h1 := all_bd l hb
  have h2 := hb.1
  unfold value_Hash.f colonnaderef02_Hash.f
  rw [Key_is l hb, refKey_is k l hb (by omega), Option.bind_some, Option.bind_some, if_pos (by rw [B_size]; omega), B_data]
  have h := hash_loop (value_Key.all l) h1 _ k 0 (Go.bits .xor .u64 14695981039346656037 z) (by rw [Nat.zero_add]) (by omega)
  exact ⟨_, rfl, h⟩
theorem bulkK {l : List Val} (w : l.length * 48 ≤ 67108864 ∧ ∀ x ∈ l, ((((Lit.int .i64 x.f0.f0).wf = true ∧ (Lit.int .i64 x.f0.f1).wf = true)) ∧ True ∧ (Lit.int .i64 x.f2).wf = true ∧ x.f3.size ≤ 67108864)) : bulk l := by
  refine ⟨by omega, fun v hv => ?_⟩
  obtain ⟨⟨h1, h2⟩, _, h3, h4⟩ := w.2 v hv
  exact ⟨bounds_i64 h1, bounds_i64 h2, bounds_i64 h3, h4⟩
end Go.Proofs.YtjpgjggbanpegaaDoor.Pure
