/- ValueKeys: what the law's walk asks is so, for values that are not too great. -/
import Derived.Test.YtjpgjggbanpegaaDoorPureKeyH
import Derived.Test.YtjpgjggbanpegaaDoorPureBeg02
import Derived.Test.YtjpgjggbanpegaaDoorKeysLaw
import Derived.Test.YtjpgjggbanpegaaDoorV5
import Derived.Test.YtjpgjggbanpegaaDoorV6
namespace Go.Proofs.YtjpgjggbanpegaaDoor.Pure
open Go.RowKit Go.Proofs.YtjpgjggbanpegaaDoor.V Go.Proofs.YtjpgjggbanpegaaDoorW.PrintWords Go.Proofs.YtjpgjggbanpegaaDoorW.PrintLast Go.Proofs.YtjpgjggbanpegaaDoor.Str
def tyOk (a b : Int) : Prop := 1 ≤ a ∧ a ≤ 5 ∧ 0 ≤ b ∧ b ≤ 18 ∧ (b = 0 ∨ a = 3)
instance (a b : Int) : Decidable (tyOk a b) := by unfold tyOk; exact inferInstance
theorem CheckTy_is (a b : Int) : value_CheckType.f a b = some (if tyOk a b then 0 else 21) := by
  unfold value_CheckType.f value_scaled.f
  by_cases h1 : a < 1
  · rw [if_pos h1, if_neg (by unfold tyOk; omega)]
  · rw [if_neg h1]
    by_cases h2 : a > 5
    · rw [if_pos h2, if_neg (by unfold tyOk; omega)]
    · rw [if_neg h2]
      by_cases h3 : b ≥ 0
      · rw [if_pos h3, Option.bind_some]
        by_cases h4 : b ≤ 18
        · rw [if_pos (by simpa using h4)]
          by_cases h5 : b = 0
          · rw [if_pos h5, if_pos (by unfold tyOk; omega)]
          · rw [if_neg h5]
            by_cases h6 : a = 3
            · rw [if_pos h6, if_pos (by unfold tyOk; omega)]
            · rw [if_neg h6, if_neg (by unfold tyOk; omega)]
        · rw [if_neg (by simpa using h4), if_neg (by unfold tyOk; omega)]
      · rw [if_neg h3, Option.bind_some, if_neg (by decide), if_neg (by unfold tyOk; omega)]
def okV (v : Val) : Prop := okB v.f0.f0 v.f0.f1 v.f1 v.f2 v.f3.data.toList
theorem chk_is (v : Val) : ∃ c, keysLaw.chk v = some c ∧ (c = 0 → okV v) := by
  obtain ⟨⟨kd, sc⟩, nu, n, s⟩ := v
  unfold keysLaw.chk value_Check.f okV
  simp only
  rw [CheckTy_is, Option.bind_some, toList_eq]
  by_cases ht : tyOk kd sc
  · rw [if_pos ht, if_pos rfl]
    obtain ⟨t1, t2, t3, t4, t5⟩ := ht
    cases nu with
    | true =>
      rw [if_pos rfl]
      by_cases h1 : s.data.toList = []
      · rw [if_pos h1]
        by_cases h2 : n = 0
        · rw [if_pos h2]; exact ⟨0, rfl, fun _ => ⟨t1, t2, t3, t4, t5, fun _ => ⟨h2, h1⟩, fun h => by cases h⟩⟩
        · rw [if_neg h2]; exact ⟨20, rfl, fun h => by cases h⟩
      · rw [if_neg h1]; exact ⟨20, rfl, fun h => by cases h⟩
    | false =>
      rw [if_neg (by decide)]
      have bad : ∃ c : Int, (some 20 : Option Int) = some c ∧ (c = 0 → okB kd sc false n s.data.toList) := ⟨20, rfl, fun h => by cases h⟩
      have good : (kd = 4 → n = 0) → (kd ≠ 4 → s.data.toList = []) → ∃ c : Int, (some 0 : Option Int) = some c ∧ (c = 0 → okB kd sc false n s.data.toList) := fun a b => ⟨0, rfl, fun _ => ⟨t1, t2, t3, t4, t5, fun h => by (cases h), fun _ => ⟨a, b⟩⟩⟩
      by_cases k1 : kd = 1
      · rw [if_pos k1]
        by_cases h1 : s.data.toList = []
        · rw [if_pos h1]
          by_cases h2 : n = 0
          · rw [if_pos h2]; exact good (fun _ => h2) (fun _ => h1)
          · rw [if_neg h2]
            by_cases h3 : n = 1
            · rw [if_pos h3]; exact good (fun h => by omega) (fun _ => h1)
            · rw [if_neg h3]; exact bad
        · rw [if_neg h1]; exact bad
      · rw [if_neg k1]
        by_cases k3 : kd = 3
        · rw [if_pos k3]
          by_cases h1 : s.data.toList = []
          · obtain ⟨q, hq⟩ : ∃ q, num_Fits.f n = some q := by unfold num_Fits.f; split <;> exact ⟨_, rfl⟩
            rw [if_pos h1, hq, Option.bind_some]
            split
            · exact good (fun h => by omega) (fun _ => h1)
            · exact bad
          · rw [if_neg h1]; exact bad
        · rw [if_neg k3]
          by_cases k5 : kd = 5
          · rw [if_pos k5]
            by_cases h1 : s.data.toList = []
            · rw [if_pos h1]
              split
              · split
                · exact good (fun h => by omega) (fun _ => h1)
                · exact bad
              · exact bad
            · rw [if_neg h1]; exact bad
          · rw [if_neg k5]
            by_cases k4 : kd = 4
            · rw [if_pos k4]
              by_cases h2 : n = 0
              · rw [if_pos h2]
                split
                · exact good (fun _ => h2) (fun h => absurd k4 h)
                · exact bad
              · rw [if_neg h2]; exact bad
            · rw [if_neg k4]
              by_cases h1 : s.data.toList = []
              · rw [if_pos h1]; exact good (fun h => absurd h k4) (fun _ => h1)
              · rw [if_neg h1]; exact bad
  · rw [if_neg ht]; exact ⟨21, by rw [if_neg (by decide)], fun h => by cases h⟩
theorem all_is : ∀ l : List Val, ∃ t, keysLaw.all l = some t ∧ (t = true → ∀ v ∈ l, okV v)
  | [] => ⟨true, rfl, fun _ v h => by cases h⟩
  | v :: l => by
    obtain ⟨t, h1, h2⟩ := all_is l
    obtain ⟨c, c1, c2⟩ := chk_is v
    unfold keysLaw.all
    rw [c1, Option.bind_some]
    by_cases hc : c = 0
    · rw [if_pos hc]
      refine ⟨t, h1, fun ht x hx => ?_⟩
      rcases List.mem_cons.1 hx with rfl | hx
      · exact c2 hc
      · exact h2 ht x hx
    · rw [if_neg hc]; exact ⟨false, rfl, fun h => by cases h⟩
theorem val_ext {v u : Val} (h : v.f0.f0 = u.f0.f0 ∧ v.f0.f1 = u.f0.f1 ∧ v.f1 = u.f1 ∧ v.f2 = u.f2 ∧ v.f3.data.toList = u.f3.data.toList) : v = u := by
  obtain ⟨⟨kd, sc⟩, nu, n, s⟩ := v
  obtain ⟨⟨kd', sc'⟩, nu', n', s'⟩ := u
  obtain ⟨h1, h2, h3, h4, h5⟩ := h
  simp only at h1 h2 h3 h4 h5
  have : s = s' := by rw [B_of s, h5, ← B_of s']
  subst h1 h2 h3 h4 this
  rfl
theorem keys_inj : ∀ a b : List Val, (∀ v ∈ a, okV v) → (∀ v ∈ b, okV v) → value_Key.all a = value_Key.all b → a = b
  | [], [], _, _, _ => rfl
  | [], u :: b, _, hb, h => by
    have e : value_Key.all (u :: b) = value_Key.one u ++ value_Key.all b := rfl
    rw [e, one_keyB] at h
    have := keyB_ne _ _ _ _ _ (hb u (by simp))
    have h' := congrArg List.length h
    rw [List.length_append] at h'
    have : (keyB u.f0.f0 u.f0.f1 u.f1 u.f2 u.f3.data.toList).length ≠ 0 := fun z => this (List.length_eq_zero_iff.1 z)
    have e0 : (value_Key.all ([] : List Val)).length = 0 := rfl
    rw [e0] at h'
    omega
  | v :: a, [], ha, _, h => by
    have e : value_Key.all (v :: a) = value_Key.one v ++ value_Key.all a := rfl
    rw [e, one_keyB] at h
    have := keyB_ne _ _ _ _ _ (ha v (by simp))
    have h' := congrArg List.length h
    rw [List.length_append] at h'
    have : (keyB v.f0.f0 v.f0.f1 v.f1 v.f2 v.f3.data.toList).length ≠ 0 := fun z => this (List.length_eq_zero_iff.1 z)
    have e0 : (value_Key.all ([] : List Val)).length = 0 := rfl
    rw [e0] at h'
    omega
  | v :: a, u :: b, ha, hb, h => by
    have e : value_Key.all (v :: a) = value_Key.one v ++ value_Key.all a := rfl
    have e' : value_Key.all (u :: b) = value_Key.one u ++ value_Key.all b := rfl
    rw [e, e', one_keyB, one_keyB] at h
    obtain ⟨h1, h2⟩ := key_inj (ha v (by simp)) (hb u (by simp)) h
    rw [val_ext h1, keys_inj a b (fun x hx => ha x (List.mem_cons_of_mem _ hx)) (fun x hx => hb x (List.mem_cons_of_mem _ hx)) h2]
theorem same_loop (a b : List Val) (hl : a.length = b.length) (hn : a.length ≤ 1000000000) : ∀ (d k i : Nat), i + d = a.length → d < k → ∃ t, colonnaderef02_Same.l0 k a b (i : Int) = some t ∧ (t = true ↔ a.drop i = b.drop i) := by
  intro d
  induction d with
  | zero =>
    intro k i h hk
    obtain ⟨k, rfl⟩ : ∃ q, k = q + 1 := ⟨k - 1, by omega⟩
    refine ⟨true, ?_, ?_⟩
    · rw [colonnaderef02_Same.l0, if_neg (by omega)]
    · rw [List.drop_of_length_le (by omega), List.drop_of_length_le (by omega)]; simp
  | succ d ih =>
    intro k i h hk
    obtain ⟨k, rfl⟩ : ∃ q, k = q + 1 := ⟨k - 1, by omega⟩
    have h1 : i < a.length := by omega
    have h2 : i < b.length := by omega
    obtain ⟨t, e1, e2⟩ := ih k (i + 1) (by omega) (by omega)
    rw [colonnaderef02_Same.l0, if_pos (by omega), if_pos (by omega), if_pos (by omega), rdV a i h1, rdV b i h2, w64s i (by omega), List.drop_eq_getElem_cons h1, List.drop_eq_getElem_cons h2]
    by_cases c : a[i] = b[i]
    · rw [c]
      refine ⟨t, ?_, ?_⟩
      · rw [if_neg (by simp), e1]
      · rw [e2]; exact ⟨fun z => by rw [z], fun z => (List.cons.inj z).2⟩
    · refine ⟨false, ?_, ?_⟩
      · rw [if_pos]
        simp only [Bool.or_eq_true, Bool.not_eq_true', beq_eq_false_iff_ne]
        apply Classical.byContradiction
        intro z
        simp only [not_or, Classical.not_not, ne_eq] at z
        obtain ⟨⟨z1, z2⟩, z3, z4, z5⟩ := z
        exact c (val_ext ⟨z1, z2, z3, z4, by rw [← toList_eq, ← toList_eq]; exact z5⟩)
      · constructor
        · intro z; cases z
        · intro z; exact absurd (List.cons.inj z).1 c
theorem Same_is (k : Nat) (a b : List Val) (hn : a.length ≤ 1000000000) (hk : a.length < k) : ∃ t, colonnaderef02_Same.f k a b = some t ∧ (t = true ↔ a = b) := by
  unfold colonnaderef02_Same.f
  by_cases h : a.length = b.length
  · rw [if_pos (by omega)]
    obtain ⟨t, e1, e2⟩ := same_loop a b h hn a.length k 0 (by omega) hk
    exact ⟨t, e1, by rw [e2]; simp⟩
  · rw [if_neg (by omega)]
    exact ⟨false, rfl, ⟨fun z => by (cases z), fun z => absurd (congrArg List.length z) h⟩⟩
theorem ValueKeys (a b : List Val) (z : Int) (wa : a.length * 48 ≤ 67108864 ∧ ∀ x ∈ a, ((((Lit.int .i64 x.f0.f0).wf = true ∧ (Lit.int .i64 x.f0.f1).wf = true)) ∧ True ∧ (Lit.int .i64 x.f2).wf = true ∧ x.f3.size ≤ 67108864))
    (wb : b.length * 48 ≤ 67108864 ∧ ∀ x ∈ b, ((((Lit.int .i64 x.f0.f0).wf = true ∧ (Lit.int .i64 x.f0.f1).wf = true)) ∧ True ∧ (Lit.int .i64 x.f2).wf = true ∧ x.f3.size ≤ 67108864)) (_wz : (Lit.int .u64 z).wf = true) : ∃ k, keysLaw.f k a b z = some true := by
  have ba := bulkK wa
  have bb := bulkK wb
  have la := ba.1
  have lb := bb.1
  refine ⟨120000000000000, ?_⟩
  unfold keysLaw.f
  rw [if_pos (by omega)]
  obtain ⟨t, e1, e2⟩ := all_is (a ++ b)
  rw [e1, Option.bind_some]
  by_cases ht : t = true
  · rw [if_pos ht]
    have hok := e2 ht
    unfold keysLaw.fin
    obtain ⟨s, s1, s2⟩ := Same_is 120000000000000 a b (by omega) (by omega)
    rw [s1, Option.bind_some, begun02 _ (by omega), Option.bind_some, if_pos rfl, Key_is a ba, Key_is b bb, Option.bind_some, Option.bind_some, B_toList, B_toList]
    cases s with
    | true =>
      have := s2.1 rfl
      subst this
      obtain ⟨r, h1⟩ := Hash_one z a ba
      rw [if_pos (by simp), if_pos rfl, h1, Option.bind_some, Option.bind_some, if_pos rfl]
    | false =>
      have hne : ¬ a = b := fun h => by have := s2.2 h; cases this
      have hk : ¬ value_Key.all a = value_Key.all b := fun h => hne (keys_inj a b (fun x hx => hok x (List.mem_append_left _ hx)) (fun x hx => hok x (List.mem_append_right _ hx)) h)
      rw [if_pos (beq_eq_false_iff_ne.2 hk), if_neg (by decide)]
  · rw [if_neg ht, if_pos (begun02 _ (by omega))]
end Go.Proofs.YtjpgjggbanpegaaDoor.Pure
