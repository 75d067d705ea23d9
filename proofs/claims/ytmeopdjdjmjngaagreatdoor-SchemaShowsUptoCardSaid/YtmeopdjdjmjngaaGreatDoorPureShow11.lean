/- Types' names, and definitions as statements: the printed functions and the reference say the same, for definitions that are not too great. -/
import Derived.Test.YtmeopdjdjmjngaaGreatDoorPureFmt
import Derived.Lib.Join
import Derived.Test.YtmeopdjdjmjngaaGreatDoorA3
import Derived.Test.YtmeopdjdjmjngaaGreatDoorA4
import Derived.Test.YtmeopdjdjmjngaaGreatDoorA5
namespace Go.Proofs.YtmeopdjdjmjngaaGreatDoor.Pure
open Go.RowKit Go.Proofs.YtmeopdjdjmjngaaGreatDoor.A Go.Proofs.YtmeopdjdjmjngaaGreatDoorW.PrintWords Go.Proofs.YtmeopdjdjmjngaaGreatDoorW.PrintLast Go.Proofs.YtmeopdjdjmjngaaGreatDoor.Str
/-- a type's name -/
def tn (t0 t1 : Int) : List UInt8 := if t0 = 1 then [66, 79, 79, 76] else if t0 = 2 then [73, 78, 84] else if t0 = 3 then [68, 69, 67, 73, 77, 65, 76, 40] ++ Lib.itoa t1 ++ [41] else if t0 = 4 then [84, 69, 88, 84] else if t0 = 5 then [68, 65, 84, 69] else [63]
theorem itoa_len (n : Int) (h : In64 n) : (Lib.itoa n).length ≤ 1001 := by
  have e := digits_bd n h
  by_cases c : n < 0
  · rw [itoa_neg n c, List.length_cons]; omega
  · rw [itoa_pos n c]; omega
theorem tn_len (t0 t1 : Int) (h : In64 t1) : (tn t0 t1).length ≤ 1100 := by
  have := itoa_len t1 h
  unfold tn
  (repeat' split) <;> simp only [List.length_append, List.length_cons, List.length_nil] <;> omega
theorem TypeName_is (t0 t1 : Int) (h : In64 t1) : schema_TypeName.f t0 t1 = some (B (tn t0 t1)) := by
  have hl := itoa_len t1 h
  unfold schema_TypeName.f tn
  by_cases c1 : t0 < 1
  · rw [if_pos c1, if_neg (by omega), if_neg (by omega), if_neg (by omega), if_neg (by omega), if_neg (by omega)]; rfl
  rw [if_neg c1]
  by_cases c2 : 5 < t0
  · rw [if_pos c2, if_neg (by omega), if_neg (by omega), if_neg (by omega), if_neg (by omega), if_neg (by omega)]; rfl
  rw [if_neg c2]
  by_cases c3 : t0 = 3
  · rw [if_pos c3, FormatInt_is t1 h, Option.bind_some, if_pos (by rw [B_size]; omega), if_neg (by omega), if_neg (by omega), if_pos c3, show (⟨#[68, 69, 67, 73, 77, 65, 76, 40]⟩ : ByteArray) = B [68, 69, 67, 73, 77, 65, 76, 40] from rfl, show (⟨#[41]⟩ : ByteArray) = B [41] from rfl, B_append, B_append]
  rw [if_neg c3]
  by_cases d1 : t0 = 1
  · rw [if_pos d1, if_pos d1]; rfl
  rw [if_neg d1, if_neg d1]
  by_cases d2 : t0 = 2
  · rw [if_pos d2, if_pos d2]; rfl
  rw [if_neg d2, if_neg d2, if_neg c3]
  by_cases d4 : t0 = 4
  · rw [if_pos d4, if_pos d4]; rfl
  rw [if_neg d4, if_neg d4, if_pos (by omega)]; rfl
theorem refTypeName_is (k : Nat) (hk : 2000 ≤ k) (t0 t1 : Int) (h : In64 t1) : colonnaderef11_TypeName.f k t0 t1 = some (B (tn t0 t1)) := by
  have hl := itoa_len t1 h
  unfold colonnaderef11_TypeName.f tn
  by_cases d1 : t0 = 1
  · rw [if_pos d1, if_pos d1]; rfl
  rw [if_neg d1, if_neg d1]
  by_cases d2 : t0 = 2
  · rw [if_pos d2, if_pos d2]; rfl
  rw [if_neg d2, if_neg d2]
  by_cases c3 : t0 = 3
  · rw [if_pos c3, if_pos c3, refFormatInt_is k hk t1 h, Option.bind_some, show (⟨#[68, 69, 67, 73, 77, 65, 76, 40]⟩ : ByteArray) = B [68, 69, 67, 73, 77, 65, 76, 40] from rfl, show (⟨#[41]⟩ : ByteArray) = B [41] from rfl, B_append, B_size, B_size, if_pos (by omega), if_pos (by rw [List.length_append]; simp only [List.length_cons, List.length_nil]; omega), B_append]
  rw [if_neg c3, if_neg c3]
  by_cases d4 : t0 = 4
  · rw [if_pos d4, if_pos d4]; rfl
  rw [if_neg d4, if_neg d4]
  by_cases d5 : t0 = 5
  · rw [if_pos d5, if_pos d5]; rfl
  rw [if_neg d5, if_neg d5]; rfl
abbrev Col := S36
/-- a column as a text -/
def colE (c : Col) : List UInt8 := c.f0.data.toList ++ [32] ++ tn c.f1.f0 c.f1.f1 ++ (if c.f2 = true then [32, 78, 79, 84, 32, 78, 85, 76, 76] else [])
def head11 (nm : ByteArray) : List UInt8 := [67, 82, 69, 65, 84, 69, 32, 84, 65, 66, 76, 69, 32] ++ nm.data.toList ++ [32, 40]
/-- a column that is not too great -/
def colOk (c : Col) : Prop := In64 c.f1.f0 ∧ In64 c.f1.f1 ∧ c.f0.size ≤ 67108864
theorem sizeL (s : ByteArray) : s.data.toList.length = s.size := Array.length_toList
theorem colE_len (c : Col) (h : colOk c) : (colE c).length ≤ 67110000 := by
  have h1 := tn_len c.f1.f0 c.f1.f1 h.2.1
  have h2 := h.2.2
  have h3 := sizeL c.f0
  unfold colE
  simp only [List.length_append, List.length_cons, List.length_nil]
  split <;> simp only [List.length_cons, List.length_nil] <;> omega
theorem join_snoc (sep y : List UInt8) : ∀ xs : List (List UInt8), xs ≠ [] → Lib.join (xs ++ [y]) sep = Lib.join xs sep ++ sep ++ y
  | [], h => absurd rfl h
  | x :: r, _ => by
    rw [List.cons_append, Lib.join_cons, Lib.join_cons]
    unfold Lib.joinTail
    rw [List.map_append, List.flatten_append]
    simp [List.append_assoc]
theorem join_len (M : Nat) : ∀ xs : List (List UInt8), (∀ x ∈ xs, x.length ≤ M) → (Lib.join xs [44, 32]).length ≤ xs.length * (M + 2) := by
  intro xs
  induction xs with
  | nil => intro _; rw [Lib.join_nil]; simp
  | cons x r ih =>
    intro h
    have hx := h x (by simp)
    have hr := ih fun y hy => h y (List.mem_cons_of_mem _ hy)
    cases r with
    | nil => rw [Lib.join_one]; simp only [List.length_cons, List.length_nil]; omega
    | cons y q =>
      rw [Lib.join_cons] at hr ⊢
      unfold Lib.joinTail at hr ⊢
      rw [List.map_cons, List.flatten_cons]
      simp only [List.length_append, List.length_cons, List.length_nil] at hr ⊢
      rw [Nat.add_mul]
      omega
theorem rd_at (l : List Col) (i : Nat) (h : i < l.length) : rd_T36 l (i : Int) = l[i] := by
  unfold rd_T36
  rw [Int.toNat_natCast, List.getD_eq_getElem?_getD, List.getElem?_eq_getElem h]
  rfl
theorem w64n (a : Nat) (h : a ≤ 1000000000000000000) : wrap64 ((a : Int) + 1) = ((a + 1 : Nat) : Int) := by unfold wrap64; omega
theorem part_len (l : List Col) (hw : ∀ c ∈ l, colOk c) (hl : l.length ≤ 1677721) (i : Nat) : (Lib.join ((l.take i).map colE) [44, 32]).length ≤ 112600000000000 := by
  have h1 := join_len 67110000 ((l.take i).map colE) (by
    intro x hx
    obtain ⟨c, hc, rfl⟩ := List.mem_map.1 hx
    exact colE_len c (hw c (List.mem_of_mem_take hc)))
  have h2 : ((l.take i).map colE).length ≤ 1677721 := by rw [List.length_map, List.length_take]; omega
  omega
theorem B_col (c : Col) : ((c.f0 ++ (⟨#[32]⟩ : ByteArray)) ++ B (tn c.f1.f0 c.f1.f1)) = B (c.f0.data.toList ++ [32] ++ tn c.f1.f0 c.f1.f1) := by
  rw [B_of c.f0, show (⟨#[32]⟩ : ByteArray) = B [32] from rfl, B_append, B_append, B_data]
theorem show_loop (l : List Col) (hw : ∀ c ∈ l, colOk c) (hl : l.length ≤ 1677721) (nm : ByteArray) (hn : nm.size ≤ 67108864) : ∀ (d k i : Nat), i + d = l.length → d < k →
    schema_Show.l0 k (((l.take i).map colE).map B) l (l.length : Int) (i : Int) nm l = some (B (head11 nm ++ Lib.join (l.map colE) [44, 32] ++ [41])) := by
  intro d
  induction d with
  | zero =>
    intro k i hi hk
    obtain ⟨k, rfl⟩ : ∃ m, k = m + 1 := ⟨k - 1, by omega⟩
    have hp := part_len l hw hl l.length
    have hns := sizeL nm
    rw [schema_Show.l0, if_neg (by omega), List.take_of_length_le (by omega)]
    rw [List.take_length] at hp
    have e1 : (⟨#[67, 82, 69, 65, 84, 69, 32, 84, 65, 66, 76, 69, 32]⟩ : ByteArray) ++ nm = B ([67, 82, 69, 65, 84, 69, 32, 84, 65, 66, 76, 69, 32] ++ nm.data.toList) := by
      rw [B_of nm, show (⟨#[67, 82, 69, 65, 84, 69, 32, 84, 65, 66, 76, 69, 32]⟩ : ByteArray) = B [67, 82, 69, 65, 84, 69, 32, 84, 65, 66, 76, 69, 32] from rfl, B_append, B_data]
    have em : ((l.map colE).map B).map (·.data.toList) = l.map colE := by
      rw [List.map_map]
      have : (fun x : List UInt8 => (B x).data.toList) = id := by funext x; exact B_data x
      show (l.map colE).map (fun x : List UInt8 => (B x).data.toList) = _
      rw [this, List.map_id]
    unfold strings_Join.f
    rw [em, show (⟨#[44, 32]⟩ : ByteArray).data.toList = [44, 32] from rfl, if_pos (by omega), e1, show (⟨#[32, 40]⟩ : ByteArray) = B [32, 40] from rfl, show (⟨#[41]⟩ : ByteArray) = B [41] from rfl,
      if_pos (by rw [B_size]; simp only [List.length_append, List.length_cons, List.length_nil]; omega), if_pos ⟨by rw [List.length_map, List.length_map]; omega, by omega⟩, Option.bind_some, B_append]
    rw [show (⟨(Lib.join (l.map colE) [44, 32]).toArray⟩ : ByteArray) = B (Lib.join (l.map colE) [44, 32]) from rfl, B_size, B_size, B_append, B_size,
      if_pos (by simp only [List.length_append, List.length_cons, List.length_nil]; omega), if_pos (by simp only [List.length_append, List.length_cons, List.length_nil]; omega), B_append]
    rfl
  | succ d ih =>
    intro k i hi hk
    obtain ⟨k, rfl⟩ : ∃ m, k = m + 1 := ⟨k - 1, by omega⟩
    have hlt : i < l.length := by omega
    have hc := hw l[i] (List.getElem_mem hlt)
    have ht := tn_len l[i].f1.f0 l[i].f1.f1 hc.2.1
    have hs := sizeL l[i].f0
    have hb := hc.2.2
    have ih' := ih k (i + 1) (by omega) (by omega)
    rw [List.take_succ_eq_append_getElem hlt, List.map_append, List.map_append] at ih'
    rw [schema_Show.l0, if_pos (by omega), if_pos (by omega), if_pos (by omega), rd_at l i hlt]
    have hcE : colE l[i] = l[i].f0.data.toList ++ [32] ++ tn l[i].f1.f0 l[i].f1.f1 ++ (if l[i].f2 = true then [32, 78, 79, 84, 32, 78, 85, 76, 76] else []) := rfl
    generalize l[i] = c at hc ht hs hb ih' hcE ⊢
    rw [if_pos (by omega), TypeName_is _ _ hc.2.1, Option.bind_some, B_col, B_size, if_pos (by
      rw [B_of c.f0, show (⟨#[32]⟩ : ByteArray) = B [32] from rfl, B_append, B_size]
      simp only [List.length_append, List.length_cons, List.length_nil]
      omega), w64n i (by omega)]
    by_cases cn : c.f2 = true
    · rw [if_pos cn] at hcE
      rw [if_pos cn, B_size, if_pos (by simp only [List.length_append, List.length_cons, List.length_nil]; omega), if_pos (by rw [List.length_map, List.length_map, List.length_take]; omega), show (⟨#[32, 78, 79, 84, 32, 78, 85, 76, 76]⟩ : ByteArray) = B [32, 78, 79, 84, 32, 78, 85, 76, 76] from rfl, B_append, ← hcE]
      exact ih'
    · rw [if_neg cn, List.append_nil] at hcE
      rw [if_neg cn, if_pos (by rw [List.length_map, List.length_map, List.length_take]; omega), ← hcE]
      exact ih'
theorem Show11_is (l : List Col) (hw : ∀ c ∈ l, colOk c) (hl : l.length ≤ 1677721) (nm : ByteArray) (hn : nm.size ≤ 67108864) (k : Nat) (hk : l.length < k) :
    schema_Show.f k nm l = some (B (head11 nm ++ Lib.join (l.map colE) [44, 32] ++ [41])) := by
  have h := show_loop l hw hl nm hn l.length k 0 (by omega) hk
  unfold schema_Show.f
  exact h
theorem refshow_loop (l : List Col) (hw : ∀ c ∈ l, colOk c) (hl : l.length ≤ 1677721) (nm : ByteArray) (hn : nm.size ≤ 67108864) : ∀ (d k i : Nat), i + d = l.length → d + 2000 < k →
    colonnaderef11_Show.l0 k (B (head11 nm ++ Lib.join ((l.take i).map colE) [44, 32])) (i : Int) nm l = some (B (head11 nm ++ Lib.join (l.map colE) [44, 32] ++ [41])) := by
  have hns := sizeL nm
  have hh : (head11 nm).length ≤ 67108900 := by unfold head11; simp only [List.length_append, List.length_cons, List.length_nil]; omega
  intro d
  induction d with
  | zero =>
    intro k i hi hk
    obtain ⟨k, rfl⟩ : ∃ m, k = m + 1 := ⟨k - 1, by omega⟩
    have hp := part_len l hw hl l.length
    rw [List.take_length] at hp
    rw [colonnaderef11_Show.l0, if_neg (by omega), List.take_of_length_le (by omega), B_size, if_pos (by simp only [List.length_append]; omega), show (⟨#[41]⟩ : ByteArray) = B [41] from rfl, B_append]
  | succ d ih =>
    intro k i hi hk
    obtain ⟨k, rfl⟩ : ∃ m, k = m + 1 := ⟨k - 1, by omega⟩
    have hlt : i < l.length := by omega
    have hc := hw l[i] (List.getElem_mem hlt)
    have ht := tn_len l[i].f1.f0 l[i].f1.f1 hc.2.1
    have hs := sizeL l[i].f0
    have hb := hc.2.2
    have hp := part_len l hw hl i
    have ih' := ih k (i + 1) (by omega) (by omega)
    rw [List.take_succ_eq_append_getElem hlt, List.map_append] at ih'
    have hne : 0 < i → (l.take i).map colE ≠ [] := fun h z => by
      have := congrArg List.length z
      rw [List.length_map, List.length_take] at this
      simp only [List.length_nil] at this
      omega
    have h0 : i = 0 → (l.take i).map colE = [] := fun h => by rw [h]; rfl
    rw [colonnaderef11_Show.l0, if_pos (by omega), rd_at l i hlt]
    have hcE : colE l[i] = l[i].f0.data.toList ++ [32] ++ tn l[i].f1.f0 l[i].f1.f1 ++ (if l[i].f2 = true then [32, 78, 79, 84, 32, 78, 85, 76, 76] else []) := rfl
    simp only [List.map_cons, List.map_nil] at ih'
    generalize l[i] = c at hc ht hs hb ih' hcE ⊢
    generalize (l.take i).map colE = xs at hp ih' hne h0 ⊢
    by_cases ci : 0 < i
    · rw [join_snoc _ _ xs (hne ci)] at ih'
      rw [if_pos (by omega), B_size, if_pos (by simp only [List.length_append]; omega), if_pos (by omega), if_pos (by omega), refTypeName_is k (by omega) _ _ hc.2.1, Option.bind_some, B_col, B_size,
        if_pos (by
          rw [B_of c.f0, show (⟨#[32]⟩ : ByteArray) = B [32] from rfl, B_append, B_size]
          simp only [List.length_append, List.length_cons, List.length_nil]
          omega),
        show (⟨#[44, 32]⟩ : ByteArray) = B [44, 32] from rfl, B_append, B_size, B_size, if_pos (by simp only [List.length_append, List.length_cons, List.length_nil]; omega), B_append, w64n i (by omega)]
      by_cases cn : c.f2 = true
      · rw [if_pos cn] at hcE
        rw [if_pos cn, B_size, if_pos (by simp only [List.length_append, List.length_cons, List.length_nil]; omega), show (⟨#[32, 78, 79, 84, 32, 78, 85, 76, 76]⟩ : ByteArray) = B [32, 78, 79, 84, 32, 78, 85, 76, 76] from rfl, B_append]
        rw [hcE] at ih'
        simp only [List.append_assoc] at ih' ⊢
        exact ih'
      · rw [if_neg cn, List.append_nil] at hcE
        rw [if_neg cn]
        rw [hcE] at ih'
        simp only [List.append_assoc] at ih' ⊢
        exact ih'
    · obtain rfl := h0 (by omega)
      rw [List.nil_append, Lib.join_one] at ih'
      rw [Lib.join_nil, List.append_nil]
      rw [if_neg (by omega), if_pos (by omega), if_pos (by omega), refTypeName_is k (by omega) _ _ hc.2.1, Option.bind_some, B_col, B_size,
        if_pos (by
          rw [B_of c.f0, show (⟨#[32]⟩ : ByteArray) = B [32] from rfl, B_append, B_size]
          simp only [List.length_append, List.length_cons, List.length_nil]
          omega),
        B_size, B_size, if_pos (by simp only [List.length_append, List.length_cons, List.length_nil]; omega), B_append, w64n i (by omega)]
      by_cases cn : c.f2 = true
      · rw [if_pos cn] at hcE
        rw [if_pos cn, B_size, if_pos (by simp only [List.length_append, List.length_cons, List.length_nil]; omega), show (⟨#[32, 78, 79, 84, 32, 78, 85, 76, 76]⟩ : ByteArray) = B [32, 78, 79, 84, 32, 78, 85, 76, 76] from rfl, B_append]
        rw [hcE] at ih'
        simp only [List.append_assoc] at ih' ⊢
        exact ih'
      · rw [if_neg cn, List.append_nil] at hcE
        rw [if_neg cn]
        rw [hcE] at ih'
        simp only [List.append_assoc] at ih' ⊢
        exact ih'
theorem refShow11_is (l : List Col) (hw : ∀ c ∈ l, colOk c) (hl : l.length ≤ 1677721) (nm : ByteArray) (hn : nm.size ≤ 67108864) (k : Nat) (hk : l.length + 2000 < k) :
    colonnaderef11_Show.f k nm l = some (B (head11 nm ++ Lib.join (l.map colE) [44, 32] ++ [41])) := by
  have h := refshow_loop l hw hl nm hn l.length k 0 (by omega) hk
  have hns := sizeL nm
  have e1 : (⟨#[67, 82, 69, 65, 84, 69, 32, 84, 65, 66, 76, 69, 32]⟩ : ByteArray) ++ nm = B ([67, 82, 69, 65, 84, 69, 32, 84, 65, 66, 76, 69, 32] ++ nm.data.toList) := by
    rw [B_of nm, show (⟨#[67, 82, 69, 65, 84, 69, 32, 84, 65, 66, 76, 69, 32]⟩ : ByteArray) = B [67, 82, 69, 65, 84, 69, 32, 84, 65, 66, 76, 69, 32] from rfl, B_append, B_data]
  unfold colonnaderef11_Show.f
  rw [if_pos (by omega), e1, B_size, if_pos (by simp only [List.length_append, List.length_cons, List.length_nil]; omega), show (⟨#[32, 40]⟩ : ByteArray) = B [32, 40] from rfl, B_append]
  rw [List.take_zero, List.map_nil, Lib.join_nil, List.append_nil] at h
  exact h
end Go.Proofs.YtmeopdjdjmjngaaGreatDoor.Pure
