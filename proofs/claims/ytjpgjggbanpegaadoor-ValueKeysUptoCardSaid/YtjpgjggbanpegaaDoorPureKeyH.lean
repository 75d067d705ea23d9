/- Keys and hashes of values: the printed functions and the reference say the same, for values that are not too great. -/
import Derived.Test.YtjpgjggbanpegaaDoorPureShow
import Derived.Test.YtjpgjggbanpegaaDoorV5
namespace Go.Proofs.YtjpgjggbanpegaaDoor.Pure
open Go.RowKit Go.Proofs.YtjpgjggbanpegaaDoor.V Go.Proofs.YtjpgjggbanpegaaDoorW.PrintWords Go.Proofs.YtjpgjggbanpegaaDoorW.PrintLast Go.Proofs.YtjpgjggbanpegaaDoor.Str Go.Proofs.YtjpgjggbanpegaaDoor.Cal
/-- a value's numbers are of 64 bits, its text is not too great -/
def fit (v : Val) : Prop := In64 v.f0.f0 ∧ In64 v.f0.f1 ∧ In64 v.f2 ∧ v.f3.size ≤ 67108864
theorem one_keyB (v : Val) : value_Key.one v = keyB v.f0.f0 v.f0.f1 v.f1 v.f2 v.f3.data.toList := by
  unfold value_Key.one keyB value_Key.sc keyS
  rw [sizeS]
theorem itoa_le (n : Int) (h : In64 n) : (Lib.itoa n).length ≤ 21 := Lib.itoa_length_le n h.1 h.2
theorem one_le (v : Val) (h : fit v) : (value_Key.one v).length ≤ 67108964 := by
  obtain ⟨h1, h2, h3, h4⟩ := h
  have a1 := itoa_le _ h1
  have a3 := itoa_le _ h3
  have a4 := itoa_le (v.f3.size : Int) ⟨by omega, by omega⟩
  have hs : 0 ≤ value_Key.sc v.f0.f1 ∧ value_Key.sc v.f0.f1 ≤ 99 := by unfold value_Key.sc; split <;> omega
  have b1 := itoa_le (value_Key.sc v.f0.f1 / 10) ⟨by omega, by omega⟩
  have b2 := itoa_le (value_Key.sc v.f0.f1 % 10) ⟨by omega, by omega⟩
  have b5 := sizeS v.f3
  unfold value_Key.one
  simp only [List.length_append]
  split <;> split <;> (try split) <;> simp only [List.length_append, List.length_cons, List.length_nil] <;> omega
theorem all_le (l : List Val) (h : ∀ v ∈ l, fit v) : (value_Key.all l).length ≤ l.length * 67108964 := by
  induction l with
  | nil => simp [value_Key.all]
  | cons v l ih =>
    have h1 := one_le v (h v (by simp))
    have h2 := ih (fun x hx => h x (List.mem_cons_of_mem _ hx))
    have e : value_Key.all (v :: l) = value_Key.one v ++ value_Key.all l := rfl
    rw [e, List.length_append, List.length_cons, Nat.add_mul]
    omega
def bulk (l : List Val) : Prop := l.length ≤ 1400000 ∧ ∀ v ∈ l, fit v
theorem all_bd (l : List Val) (h : bulk l) : (value_Key.all l).length ≤ 100000000000000 := by
  have h1 := all_le l h.2
  have h2 := h.1
  omega
theorem Key_is (l : List Val) (h : bulk l) : value_Key.f l = some (B (value_Key.all l)) := by
  have hb := all_bd l h
  unfold value_Key.f
  rw [if_pos]
  · rfl
  · refine ⟨List.all_eq_true.2 fun v hv => ?_, by omega⟩
    obtain ⟨⟨a1, a2⟩, _, ⟨a3, a4⟩, a5⟩ := h.2 v hv
    unfold value_Key.ok
    simp only [Bool.and_eq_true, decide_eq_true_eq]
    exact ⟨⟨⟨⟨a1, a2⟩, a3⟩, a4⟩, by omega⟩
theorem rdV (l : List Val) (i : Nat) (h : i < l.length) : rd_T25 l (i : Int) = l[i] := by
  unfold rd_T25
  rw [Int.toNat_natCast, List.getD_eq_getElem?_getD, List.getElem?_eq_getElem h]; rfl
theorem all_drop (l : List Val) (i : Nat) (h : i < l.length) : value_Key.all (l.drop i) = value_Key.one l[i] ++ value_Key.all (l.drop (i + 1)) := by
  rw [List.drop_eq_getElem_cons h]; rfl
theorem dg2 (n : Int) (h0 : 0 ≤ n) (h : n ≤ 99) : strOfNums [(wrap64 (48 + (wrap64 (Int.tdiv n 10)))) % 256, (wrap64 (48 + (Int.tmod n 10))) % 256] = B (Lib.itoa (n / 10) ++ Lib.itoa (n % 10)) := by
  rw [itoa_digit (n / 10) (by omega) (by omega), itoa_digit (n % 10) (by omega) (by omega), B_nums, Int.tdiv_eq_ediv_of_nonneg h0, Int.tmod_eq_emod_of_nonneg h0, wr (x := n / 10) (by omega) (by omega), wr (by omega) (by omega), wr (by omega) (by omega)]
  have e1 : (48 + n / 10) % 256 = 48 + n / 10 := by omega
  have e2 : (48 + n % 10) % 256 = 48 + n % 10 := by omega
  rw [e1, e2]
  have e3 : (48 + n / 10).toNat = 48 + (n / 10).toNat := by omega
  have e4 : (48 + n % 10).toNat = 48 + (n % 10).toNat := by omega
  simp only [List.map_cons, List.map_nil, e3, e4]
  rfl
theorem dg99 : strOfNums [48 + ((99 : Int) / 10), 48 + ((99 : Int) % 10)] = B (Lib.itoa (99 / 10) ++ Lib.itoa (99 % 10)) := by
  rw [itoa_digit (99 / 10) (by omega) (by omega), itoa_digit (99 % 10) (by omega) (by omega), B_nums]
  rfl
/-- the rest behind the digits -/
def tl (nu : Bool) (kd n : Int) (s : ByteArray) : List UInt8 := if nu = true then [110] else if kd = 4 then 118 :: (Lib.itoa (s.size : Int) ++ 58 :: s.data.toList) else 118 :: (Lib.itoa n ++ [59])
theorem Hash_one (z : Int) (l : List Val) (hb : bulk l) : ∃ r, value_Hash.f z l = some r := by
  have h1 := all_bd l hb
  unfold value_Hash.f
  rw [Key_is l hb, Option.bind_some, if_pos (by rw [B_size]; omega)]
  exact ⟨_, rfl⟩
theorem bulkK {l : List Val} (w : l.length * 48 ≤ 67108864 ∧ ∀ x ∈ l, ((((Lit.int .i64 x.f0.f0).wf = true ∧ (Lit.int .i64 x.f0.f1).wf = true)) ∧ True ∧ (Lit.int .i64 x.f2).wf = true ∧ x.f3.size ≤ 67108864)) : bulk l := by
  refine ⟨by omega, fun v hv => ?_⟩
  obtain ⟨⟨h1, h2⟩, _, h3, h4⟩ := w.2 v hv
  exact ⟨bounds_i64 h1, bounds_i64 h2, bounds_i64 h3, h4⟩
end Go.Proofs.YtjpgjggbanpegaaDoor.Pure
