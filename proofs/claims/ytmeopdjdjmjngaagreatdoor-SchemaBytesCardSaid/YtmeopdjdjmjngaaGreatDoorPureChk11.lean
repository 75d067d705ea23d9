/- Names, columns' places, definitions' checks: the printed functions and the reference say the same. -/
import Derived.Test.YtmeopdjdjmjngaaGreatDoorStrB
import Derived.Lib.SlBy
import Derived.Test.YtmeopdjdjmjngaaGreatDoorI2
import Derived.Test.YtmeopdjdjmjngaaGreatDoorI5
import Derived.Test.YtmeopdjdjmjngaaGreatDoorI6
import Derived.Test.YtmeopdjdjmjngaaGreatDoorI7
import Derived.Test.YtmeopdjdjmjngaaGreatDoorI8
namespace Go.Proofs.YtmeopdjdjmjngaaGreatDoor.Pure
open Go.RowKit Go.Proofs.YtmeopdjdjmjngaaGreatDoor.I Go.Proofs.YtmeopdjdjmjngaaGreatDoorW.PrintWords Go.Proofs.YtmeopdjdjmjngaaGreatDoorW.PrintLast Go.Proofs.YtmeopdjdjmjngaaGreatDoor.Str
/-- what schema.Find answers -/
def schema_Find.ix (l0_1 : List (S36)) (a1 : ByteArray) : Int := Lib.idxBy (fun _ (c : S36) => c.f0.toList == a1.toList) l0_1 z36
def schema_Find.f (a0_0 : ByteArray) (l0_1 : List (S36)) (a1 : ByteArray) : Option (Int × Bool) :=
  if l0_1.length ≤ 9223372036854775807 then some (max (schema_Find.ix l0_1 a1) 0, decide (0 ≤ schema_Find.ix l0_1 a1)) else none
abbrev Col11 := S36
theorem wv (a : Nat) (h : a ≤ 1000000000000000000) : wrap64 ((a : Int) + 1) = ((a + 1 : Nat) : Int) := by unfold wrap64; omega
theorem sizeN (s : ByteArray) : s.data.toList.length = s.size := Array.length_toList
theorem bt_nat (s : ByteArray) (i : Nat) (h : i < s.data.toList.length) : bt s (i : Int) = (s.data.toList[i].toNat : Int) := by
  have h' : ((i : Int).toNat) < s.size := by rw [← sizeN]; exact h
  rw [← bt_at s (i : Int) h']
  rfl
/-! names -/
def okc (i : Nat) (c : UInt8) : Bool := decide (97 ≤ c.toNat ∧ c.toNat ≤ 122) || decide (c.toNat = 95) || (decide (48 ≤ c.toNat ∧ c.toNat ≤ 57) && decide (0 < i))
def allF : List UInt8 → Nat → Bool
  | [], _ => true
  | c :: r, i => okc i c && allF r (i + 1)
theorem name_loop (s : ByteArray) (hm : s.size ≤ 1000000000000000000) : ∀ (d k i : Nat) (ok : Bool), i + d = s.size → d < k → colonnaderef11_Name.l0 k s ok (i : Int) = some (if (ok && allF (s.data.toList.drop i) i) = true then 0 else 110) := by
  intro d
  induction d with
  | zero =>
    intro k i ok hi hk
    obtain ⟨k, rfl⟩ : ∃ m, k = m + 1 := ⟨k - 1, by omega⟩
    rw [colonnaderef11_Name.l0, if_neg (by omega), List.drop_eq_nil_of_le (by rw [sizeN]; omega)]
    cases ok <;> simp [allF]
  | succ d ih =>
    intro k i ok hi hk
    obtain ⟨k, rfl⟩ : ∃ m, k = m + 1 := ⟨k - 1, by omega⟩
    have hlt : i < s.data.toList.length := by rw [sizeN]; omega
    rw [colonnaderef11_Name.l0, if_pos (by omega), List.drop_eq_getElem_cons hlt, allF, bt_nat s i hlt, wv i (by omega)]
    cases ok with
    | false => simp
    | true =>
      rw [if_pos rfl, if_pos (by omega), Bool.true_and]
      generalize s.data.toList[i] = c
      have go : ∀ b : Bool, b = okc i c → colonnaderef11_Name.l0 k s b ((i + 1 : Nat) : Int) = some (if (okc i c && allF (s.data.toList.drop (i + 1)) (i + 1)) = true then 0 else 110) := fun b hb => by rw [ih k (i + 1) b (by omega) (by omega), hb]
      by_cases h48 : 48 ≤ c.toNat
      · rw [if_pos (show (c.toNat : Int) ≥ 48 by omega)]
        by_cases h97 : 97 ≤ c.toNat
        · rw [if_pos (show (c.toNat : Int) ≥ 97 by omega)]
          by_cases h122 : c.toNat ≤ 122
          · rw [if_pos (show (c.toNat : Int) ≤ 122 by omega)]
            exact go _ (by unfold okc; rw [decide_eq_true ⟨h97, h122⟩]; rfl)
          · rw [if_neg (show ¬ (c.toNat : Int) ≤ 122 by omega), if_neg (show ¬ (c.toNat : Int) = 95 by omega), if_neg (show ¬ (c.toNat : Int) ≤ 57 by omega)]
            exact go _ (by unfold okc; rw [decide_eq_false (show ¬ (97 ≤ c.toNat ∧ c.toNat ≤ 122) by omega), decide_eq_false (show ¬ c.toNat = 95 by omega), decide_eq_false (show ¬ (48 ≤ c.toNat ∧ c.toNat ≤ 57) by omega)]; rfl)
        · rw [if_neg (show ¬ (c.toNat : Int) ≥ 97 by omega)]
          by_cases h95 : c.toNat = 95
          · rw [if_pos (show (c.toNat : Int) = 95 by omega)]
            exact go _ (by unfold okc; rw [decide_eq_true h95]; simp)
          · rw [if_neg (show ¬ (c.toNat : Int) = 95 by omega)]
            by_cases h57 : c.toNat ≤ 57
            · rw [if_pos (show (c.toNat : Int) ≤ 57 by omega)]
              exact go _ (by unfold okc; rw [decide_eq_false (show ¬ (97 ≤ c.toNat ∧ c.toNat ≤ 122) by omega), decide_eq_false h95, decide_eq_true (show 48 ≤ c.toNat ∧ c.toNat ≤ 57 from ⟨h48, h57⟩), Bool.false_or, Bool.false_or, Bool.true_and]; exact decide_eq_decide.2 (by omega))
            · rw [if_neg (show ¬ (c.toNat : Int) ≤ 57 by omega)]
              exact go _ (by unfold okc; rw [decide_eq_false (show ¬ (97 ≤ c.toNat ∧ c.toNat ≤ 122) by omega), decide_eq_false h95, decide_eq_false (show ¬ (48 ≤ c.toNat ∧ c.toNat ≤ 57) by omega)]; rfl)
      · rw [if_neg (show ¬ (c.toNat : Int) ≥ 48 by omega), if_neg (show ¬ (c.toNat : Int) ≥ 97 by omega), if_neg (show ¬ (c.toNat : Int) = 95 by omega)]
        exact go _ (by unfold okc; rw [decide_eq_false (show ¬ (97 ≤ c.toNat ∧ c.toNat ≤ 122) by omega), decide_eq_false (show ¬ c.toNat = 95 by omega), decide_eq_false (show ¬ (48 ≤ c.toNat ∧ c.toNat ≤ 57) by omega)]; rfl)
theorem allF_pos : ∀ (l : List UInt8) (i : Nat), 0 < i → allF l i = l.all schema_Name.inS
  | [], _, _ => rfl
  | c :: r, i, h => by
    rw [allF, List.all_cons, allF_pos r (i + 1) (by omega)]
    congr 1
    unfold okc schema_Name.inS
    rw [decide_eq_true h, Bool.and_true, Bool.or_assoc, Bool.or_comm (decide (c.toNat = 95)), Bool.decide_and, Bool.decide_and]
theorem Name_both (s : ByteArray) (hm : s.size ≤ 1000000000000000000) : ∀ k, s.size + 5 < k → colonnaderef11_Name.f k s = schema_Name.f s := by
  intro k hk
  obtain ⟨k, rfl⟩ : ∃ m, k = m + 1 := ⟨k - 1, by omega⟩
  have H := fun ok => name_loop s hm s.size k 0 ok (by omega) (by omega)
  unfold colonnaderef11_Name.f schema_Name.f
  by_cases c0 : s.size = 0
  · rw [if_neg (by omega), if_pos c0, colonnaderef11_Name.j0]
    exact H false
  · rw [if_pos (by omega), if_neg c0, colonnaderef11_Name.j0]
    have H2 := H (decide ((s.size : Int) ≤ 32))
    rw [show ((0 : Nat) : Int) = 0 from rfl] at H2
    rw [H2]
    by_cases c1 : 32 < s.size
    · rw [if_pos c1, decide_eq_false (by omega)]; rfl
    · rw [if_neg c1, decide_eq_true (by omega), Bool.true_and, List.drop_zero]
      have hlt : 0 < s.data.toList.length := by rw [sizeN]; omega
      have hb := bt_nat s 0 hlt
      rw [show ((0 : Nat) : Int) = 0 from rfl] at hb
      rw [hb]
      clear hb H H2
      obtain ⟨c, r, hl⟩ : ∃ c r, s.data.toList = c :: r := by
        cases hl : s.data.toList with
        | nil => rw [hl] at hlt; exact absurd hlt (by simp)
        | cons c r => exact ⟨c, r, rfl⟩
      have hc : s.data.toList[0] = c := by simp only [hl, List.getElem_cons_zero]
      · rw [hc, hl]
        rw [allF, List.all_cons, allF_pos r 1 (by omega)]
        by_cases d : 48 ≤ (c.toNat : Int) ∧ (c.toNat : Int) ≤ 57
        · rw [if_pos d]
          have : okc 0 c = false := by
            unfold okc
            rw [decide_eq_false (show ¬ (97 ≤ c.toNat ∧ c.toNat ≤ 122) by omega), decide_eq_false (show ¬ c.toNat = 95 by omega)]
            simp
          rw [this]; rfl
        · rw [if_neg d]
          have : okc 0 c = schema_Name.inS c := by
            unfold okc schema_Name.inS
            rw [decide_eq_false (show ¬ (48 ≤ c.toNat ∧ c.toNat ≤ 57) by omega), Bool.false_and, Bool.or_false, Bool.decide_and]
            have e : (decide (48 ≤ c.toNat) && decide (c.toNat ≤ 57)) = false := by rw [← Bool.decide_and]; exact decide_eq_false (by omega)
            rw [e, Bool.false_or]
          rw [this]
/-! a column's place -/
theorem rd_at (l : List Col11) (i : Nat) (h : i < l.length) : rd_T36 l (i : Int) = l[i] := by
  unfold rd_T36
  rw [show ((i : Int).toNat) = i from rfl, List.getD_eq_getElem?_getD, List.getElem?_eq_getElem h]; rfl
theorem find_loop (l : List Col11) (nm a : ByteArray) (hm : l.length ≤ 1000000000000000000) : ∀ (d k i : Nat), i + d = l.length → d < k →
    colonnaderef11_Find.l0 k a (i : Int) nm l = some (max (Lib.idxByFrom (fun _ (c : Col11) => c.f0.toList == a.toList) z36 (l.drop i) i) 0, decide (0 ≤ Lib.idxByFrom (fun _ (c : Col11) => c.f0.toList == a.toList) z36 (l.drop i) i)) := by
  intro d
  induction d with
  | zero =>
    intro k i hi hk
    obtain ⟨k, rfl⟩ : ∃ m, k = m + 1 := ⟨k - 1, by omega⟩
    rw [colonnaderef11_Find.l0, if_neg (by omega), List.drop_eq_nil_of_le (by omega), Lib.idxByFrom]
    rfl
  | succ d ih =>
    intro k i hi hk
    obtain ⟨k, rfl⟩ : ∃ m, k = m + 1 := ⟨k - 1, by omega⟩
    have hlt : i < l.length := by omega
    rw [colonnaderef11_Find.l0, if_pos (by omega), if_pos (by omega), rd_at l i hlt, List.drop_eq_getElem_cons hlt, Lib.idxByFrom, wv i (by omega)]
    by_cases e : l[i].f0.toList = a.toList
    · rw [if_pos e, if_pos (beq_iff_eq.2 e), show max (i : Int) 0 = (i : Int) from by omega, decide_eq_true (show (0 : Int) ≤ (i : Int) by omega)]
    · rw [if_neg e, if_neg (by simpa using e)]
      exact ih k (i + 1) (by omega) (by omega)
theorem Find_both (l : List Col11) (nm a : ByteArray) (hm : l.length ≤ 1000000000000000000) (k : Nat) (hk : l.length < k) : colonnaderef11_Find.f k nm l a = schema_Find.f nm l a := by
  unfold colonnaderef11_Find.f schema_Find.f
  rw [if_pos (by omega), show (0 : Int) = ((0 : Nat) : Int) from rfl, find_loop l nm a hm l.length k 0 (by omega) hk, List.drop_zero]
  rfl
theorem ix_lt (p : Col11 → Bool) (z : Col11) : ∀ (l : List Col11) (i b : Nat), (l.take i).any p = true → (b : Int) ≤ Lib.idxByFrom (fun _ c => p c) z l b ∧ Lib.idxByFrom (fun _ c => p c) z l b < (b : Int) + (i : Int)
  | [], i, b, h => by simp at h
  | c :: r, 0, b, h => by simp at h
  | c :: r, i + 1, b, h => by
    rw [Lib.idxByFrom]
    by_cases e : p c = true
    · rw [if_pos e]; omega
    · rw [if_neg e]
      rw [List.take_succ_cons, List.any_cons, Bool.eq_false_iff.mpr e, Bool.false_or] at h
      have := ix_lt p z r i (b + 1) h
      omega
theorem ix_eq (p : Col11 → Bool) (z : Col11) : ∀ (l : List Col11) (i b : Nat) (h : i < l.length), p l[i] = true → (l.take i).any p = false → Lib.idxByFrom (fun _ c => p c) z l b = (b : Int) + (i : Int)
  | [], i, b, h, _, _ => by simp at h
  | c :: r, 0, b, h, hp, _ => by
    rw [Lib.idxByFrom, if_pos (by simpa using hp)]; omega
  | c :: r, i + 1, b, h, hp, ha => by
    rw [List.take_succ_cons, List.any_cons, Bool.or_eq_false_iff] at ha
    rw [Lib.idxByFrom, if_neg (by rw [ha.1]; decide), ix_eq p z r i (b + 1) (by simpa using h) (by simpa using hp) ha.2]
    omega
/-! may a definition be? -/
theorem chk11 (a b : Int) : ∃ c, value_CheckType.f a b = some c ∧ colonnaderef02_CheckType.f a b = some c := by
  unfold value_CheckType.f colonnaderef02_CheckType.f value_scaled.f
  by_cases h1 : a < 1
  · rw [if_pos h1, if_pos h1]; exact ⟨_, rfl, rfl⟩
  · rw [if_neg h1, if_neg h1]
    by_cases h2 : a > 5
    · rw [if_pos h2, if_pos h2]; exact ⟨_, rfl, rfl⟩
    · rw [if_neg h2, if_neg h2]
      by_cases h3 : b ≥ 0
      · rw [if_pos h3, if_neg (show ¬ b < 0 by omega), Option.bind_some]
        by_cases h4 : b ≤ 18
        · rw [if_pos (decide_eq_true h4), if_neg (show ¬ b > 18 by omega)]
          by_cases h5 : b = 0
          · rw [if_pos h5]
            refine ⟨0, rfl, ?_⟩
            by_cases h6 : a = 3
            · rw [if_pos h6]
            · rw [if_neg h6, if_pos h5]
          · rw [if_neg h5]
            by_cases h6 : a = 3
            · rw [if_pos h6, if_pos h6]; exact ⟨_, rfl, rfl⟩
            · rw [if_neg h6, if_neg h6, if_neg h5]; exact ⟨_, rfl, rfl⟩
        · rw [if_neg (by simpa using h4), if_pos (show b > 18 by omega)]; exact ⟨_, rfl, rfl⟩
      · rw [if_neg h3, if_pos (show b < 0 by omega)]; exact ⟨_, rfl, rfl⟩
theorem check_loop (l : List Col11) (nm : ByteArray) (hm : l.length ≤ 1000000000000000000) : ∀ (d k i : Nat) (seen : List (List UInt8)), i + d = l.length → l.length + d + 10 < k → (∀ s, seen.any (· == s) = (l.take i).any (fun x => x.f0.toList == s)) →
    ∃ v, schema_Check.lp (l.drop i) seen = some v ∧ colonnaderef11_Check.l1 k (i : Int) nm l = some v ∧ (v = 0 ∨ v = 111) := by
  intro d
  induction d with
  | zero =>
    intro k i seen hi hk _
    obtain ⟨k, rfl⟩ : ∃ m, k = m + 1 := ⟨k - 1, by omega⟩
    rw [colonnaderef11_Check.l1, if_neg (by omega), List.drop_eq_nil_of_le (by omega)]
    exact ⟨0, rfl, rfl, .inl rfl⟩
  | succ d ih =>
    intro k i seen hi hk hs
    obtain ⟨k, rfl⟩ : ∃ m, k = m + 1 := ⟨k - 1, by omega⟩
    have hlt : i < l.length := by omega
    rw [colonnaderef11_Check.l1, if_pos (by omega), if_pos (by omega), rd_at l i hlt, List.drop_eq_getElem_cons hlt, schema_Check.lp, Find_both l nm _ hm k (by omega)]
    have hf : schema_Find.f nm l l[i].f0 = some (max (Lib.idxByFrom (fun _ (c : Col11) => c.f0.toList == l[i].f0.toList) z36 l 0) 0, decide (0 ≤ Lib.idxByFrom (fun _ (c : Col11) => c.f0.toList == l[i].f0.toList) z36 l 0)) := by
      unfold schema_Find.f
      rw [if_pos (by omega)]
      rfl
    rw [hf, Option.bind_some, wv i (by omega), ← toList_eq]
    by_cases h1 : seen.any (· == l[i].f0.toList) = true
    · rw [if_pos h1]
      have h2 := ix_lt (fun c => c.f0.toList == l[i].f0.toList) z36 l i 0 ((hs _).symm.trans h1)
      rw [if_neg (by show ¬ max _ (0 : Int) = (i : Int); omega)]
      exact ⟨111, rfl, rfl, .inr rfl⟩
    · rw [if_neg h1]
      have h2 := ix_eq (fun c => c.f0.toList == l[i].f0.toList) z36 l i 0 hlt (beq_iff_eq.2 rfl) ((hs _).symm.trans (Bool.eq_false_iff.mpr h1))
      rw [if_pos (by show max _ (0 : Int) = (i : Int); omega)]
      obtain ⟨t, e1, e2⟩ := chk11 l[i].f1.f0 l[i].f1.f1
      rw [e1, e2, Option.bind_some, Option.bind_some]
      by_cases h3 : t = 0
      · rw [if_pos h3, if_pos h3]
        refine ih k (i + 1) _ (by omega) (by omega) fun s => ?_
        rw [List.any_cons, hs s, List.take_succ_eq_append_getElem hlt, List.any_append, List.any_cons, List.any_nil, Bool.or_false, Bool.or_comm]
      · rw [if_neg h3, if_neg h3]; exact ⟨111, rfl, rfl, .inr rfl⟩
theorem names_loop (l : List Col11) (nm : ByteArray) (M : Nat) (hM : M ≤ 1000000000000000000) (hm : l.length ≤ 1000000000000000000) (hs : ∀ x ∈ l, x.f0.size ≤ M) : ∀ (d k i : Nat), i + d = l.length → M + d + 10 < k →
    ∃ k', k ≤ k' + d + 1 ∧ colonnaderef11_Check.l0 k (i : Int) nm l = if ((l.drop i).any fun x => schema_Check.nm x.f0 != 0) = true then some 110 else (if (l.length : Int) = 0 then (colonnaderef11_Check.j1 k' true nm l) else (colonnaderef11_Check.j1 k' (decide ((l.length : Int) > 32)) nm l)) := by
  intro d
  induction d with
  | zero =>
    intro k i hi hk
    obtain ⟨k, rfl⟩ : ∃ m, k = m + 1 := ⟨k - 1, by omega⟩
    refine ⟨k, by omega, ?_⟩
    rw [colonnaderef11_Check.l0, if_neg (by omega), List.drop_eq_nil_of_le (by omega)]
    rfl
  | succ d ih =>
    intro k i hi hk
    obtain ⟨k, rfl⟩ : ∃ m, k = m + 1 := ⟨k - 1, by omega⟩
    have hlt : i < l.length := by omega
    have hsz := hs l[i] (List.getElem_mem hlt)
    rw [colonnaderef11_Check.l0, if_pos (by omega), if_pos (by omega), rd_at l i hlt, List.drop_eq_getElem_cons hlt, Name_both _ (by omega) k (by omega), schema_Check.nm_is, Option.bind_some, wv i (by omega), List.any_cons]
    by_cases h : schema_Check.nm l[i].f0 = 0
    · rw [if_pos h, show (schema_Check.nm l[i].f0 != 0) = false from bne_eq_false_iff_eq.mpr h, Bool.false_or]
      obtain ⟨k', h1, h2⟩ := ih k (i + 1) (by omega) (by omega)
      exact ⟨k', by omega, h2⟩
    · rw [if_neg h, show (schema_Check.nm l[i].f0 != 0) = true from bne_iff_ne.mpr h, Bool.true_or]
      exact ⟨k, by omega, by rw [if_pos rfl]⟩
theorem Check_both (l : List Col11) (nm : ByteArray) (M : Nat) (hM : M ≤ 1000000000000000000) (hm : l.length ≤ 1000000000000000000) (hn : nm.size ≤ M) (hs : ∀ x ∈ l, x.f0.size ≤ M) (k : Nat) (hk : M + 3 * l.length + 100 < k) :
    ∃ r, schema_Check.f nm l = some r ∧ colonnaderef11_Check.f k nm l = some r := by
  unfold schema_Check.f colonnaderef11_Check.f
  rw [if_pos (by omega), Name_both nm (by omega) k (by omega), schema_Check.nm_is, Option.bind_some]
  by_cases h : schema_Check.nm nm = 0
  · rw [if_pos h, if_pos h]
    obtain ⟨k', hk', e⟩ := names_loop l nm M hM hm hs l.length k 0 (by omega) (by omega)
    rw [show ((0 : Nat) : Int) = 0 from rfl, List.drop_zero] at e
    rw [e]
    by_cases a : (l.any fun x => schema_Check.nm x.f0 != 0) = true
    · rw [if_pos a, if_pos a]; exact ⟨_, rfl, rfl⟩
    · rw [if_neg a, if_neg a]
      obtain ⟨k', rfl⟩ : ∃ m, k' = m + 1 := ⟨k' - 1, by omega⟩
      obtain ⟨v, e1, e2, e3⟩ := check_loop l nm hm l.length k' 0 [] (by omega) (by omega) (fun s => by simp)
      rw [show ((0 : Nat) : Int) = 0 from rfl] at e2
      rw [List.drop_zero] at e1
      rw [e1, Option.bind_some]
      by_cases z : l.length = 0
      · rw [if_pos (show (l.length : Int) = 0 by omega), colonnaderef11_Check.j1, if_pos rfl]
        refine ⟨111, ?_, rfl⟩
        rcases e3 with rfl | rfl
        · rw [if_pos rfl, if_pos (.inl z)]
        · rw [if_neg (by decide)]
      · rw [if_neg (show ¬ (l.length : Int) = 0 by omega), colonnaderef11_Check.j1]
        by_cases y : 32 < l.length
        · have q : decide ((l.length : Int) > 32) = true := decide_eq_true (by omega)
          refine ⟨111, ?_, if_pos q⟩
          rcases e3 with rfl | rfl
          · rw [if_pos rfl, if_pos (.inr y)]
          · rw [if_neg (by decide)]
        · have q : ¬ decide ((l.length : Int) > 32) = true := by rw [decide_eq_false (show ¬ (l.length : Int) > 32 by omega)]; decide
          refine ⟨v, ?_, (if_neg q).trans e2⟩
          rcases e3 with rfl | rfl
          · rw [if_pos rfl, if_neg (by rintro (q | q); exact z q; exact y q)]
          · rw [if_neg (by decide)]
  · rw [if_neg h, if_neg h]; exact ⟨_, rfl, rfl⟩
end Go.Proofs.YtmeopdjdjmjngaaGreatDoor.Pure
