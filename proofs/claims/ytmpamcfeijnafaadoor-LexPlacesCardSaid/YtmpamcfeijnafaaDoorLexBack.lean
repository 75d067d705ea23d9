/- Tokens joined to a text and taken apart again are the same. No program. -/
import Derived.Test.YtmpamcfeijnafaaDoorLex
import Derived.Test.YtmpamcfeijnafaaDoorDbl
namespace Go.Proofs.YtmpamcfeijnafaaDoor.Lex
open Go.RowKit Go.Proofs.YtmpamcfeijnafaaDoor.Str

theorem all256 {p : UInt8 → Prop} (h : ∀ n : Fin 256, p (UInt8.ofNat n.val)) (c : UInt8) : p c := by
  have := h ⟨c.toNat, c.toNat_lt⟩
  rwa [UInt8.ofNat_toNat] at this
/-- a token as a text -/
def txt (x : Int × List UInt8) : List UInt8 := if x.1 = 3 then 39 :: (dbl x.2 ++ [39]) else x.2
def jn : List (Int × List UInt8) → List UInt8
  | [] => []
  | [x] => txt x
  | x :: y :: r => txt x ++ 32 :: jn (y :: r)
def good (x : Int × List UInt8) : Prop := one (txt x) = some (x.1, x.2, (txt x).length)

set_option maxRecDepth 100000 in
theorem notP (c : UInt8) : isL c = true ∨ isD c = true ∨ c = 39 ∨ isS c = true ∨ c = 124 → isP c = false := by
  refine all256 (p := fun c => isL c = true ∨ isD c = true ∨ c = 39 ∨ isS c = true ∨ c = 124 → isP c = false) ?_ c
  decide
set_option maxRecDepth 100000 in
theorem low_facts (c : UInt8) : (isL c = true → isL (low c) = true) ∧ (isW c = true → isW (low c) = true) ∧ low (low c) = low c ∧ (isD c = true → isL c = false) ∧ (isD c = true → c ≠ 46) ∧ (isL c = true → isW c = true) := by
  refine all256 (p := fun c => (isL c = true → isL (low c) = true) ∧ (isW c = true → isW (low c) = true) ∧ low (low c) = low c ∧ (isD c = true → isL c = false) ∧ (isD c = true → c ≠ 46) ∧ (isL c = true → isW c = true)) ?_ c
  decide
theorem run_all (p : UInt8 → Bool) : ∀ l : List UInt8, (∀ x ∈ l, p x = true) → run p l = l.length
  | [], _ => rfl
  | c :: r, h => by
    rw [run_cons, if_pos (h c (List.mem_cons_self ..)), run_all p r (fun x hx => h x (List.mem_cons_of_mem _ hx)), List.length_cons, Nat.add_comm]
theorem run_mem (p : UInt8 → Bool) : ∀ l : List UInt8, run p l = l.length → ∀ x ∈ l, p x = true
  | [], _, _, h => by cases h
  | c :: r, e, x, h => by
    rw [run_cons] at e
    have hl := run_le p r
    by_cases hc : p c = true
    · rw [if_pos hc, List.length_cons] at e
      rcases List.mem_cons.1 h with rfl | h
      · exact hc
      · exact run_mem p r (by omega) x h
    · rw [if_neg hc, List.length_cons] at e; omega
theorem run_app (p : UInt8 → Bool) : ∀ a b : List UInt8, run p (a ++ b) = if run p a = a.length then a.length + run p b else run p a
  | [], b => by simp [run]
  | c :: r, b => by
    have ih := run_app p r b
    have hl := run_le p r
    rw [List.cons_append, run_cons, run_cons, List.length_cons]
    by_cases hc : p c = true
    · rw [if_pos hc, if_pos hc, ih]
      by_cases h : run p r = r.length
      · rw [if_pos h, if_pos (by omega)]; omega
      · rw [if_neg h, if_neg (by omega)]
    · rw [if_neg hc, if_neg hc, if_neg (by omega)]
theorem take_all {p : UInt8 → Bool} : ∀ {l : List UInt8}, (∀ x ∈ l, p x = true) → l.takeWhile p = l
  | [], _ => rfl
  | c :: r, h => by rw [List.takeWhile_cons, if_pos (h c (List.mem_cons_self ..)), take_all (fun x hx => h x (List.mem_cons_of_mem _ hx))]
theorem take_mem {p : UInt8 → Bool} : ∀ {l : List UInt8} {x : UInt8}, x ∈ l.takeWhile p → p x = true
  | [], x, h => by cases h
  | c :: r, x, h => by
    rw [List.takeWhile_cons] at h
    by_cases hc : p c = true
    · rw [if_pos hc] at h
      rcases List.mem_cons.1 h with rfl | h
      · exact hc
      · exact take_mem h
    · rw [if_neg hc] at h; cases h
theorem take_run (p : UInt8 → Bool) (l : List UInt8) : l.take (run p l) = l.takeWhile p := by
  induction l with
  | nil => rfl
  | cons c r ih =>
    rw [run_cons, List.takeWhile_cons]
    by_cases h : p c = true
    · rw [if_pos h, if_pos h, Nat.add_comm 1, List.take_succ_cons, ih]
    · rw [if_neg h, if_neg h]; rfl
theorem run_at (p : UInt8 → Bool) (l : List UInt8) (h : run p l < l.length) : p (l.getD (run p l) 0) = false := by
  induction l with
  | nil => simp at h
  | cons c r ih =>
    rw [run_cons] at h ⊢
    by_cases hc : p c = true
    · rw [if_pos hc] at h ⊢
      rw [Nat.add_comm 1, List.getD_cons_succ]
      exact ih (by rw [List.length_cons] at h; omega)
    · rw [if_neg hc]; simpa using hc
theorem getD_app (a b : List UInt8) (i : Nat) (h : i < a.length) : (a ++ b).getD i 0 = a.getD i 0 := by
  rw [List.getD_eq_getElem?_getD, List.getD_eq_getElem?_getD, List.getElem?_append_left h]
theorem getD_end (a : List UInt8) (c : UInt8) (b : List UInt8) : (a ++ c :: b).getD a.length 0 = c := by
  rw [List.getD_eq_getElem?_getD, List.getElem?_append_right (Nat.le_refl _)]; simp
theorem getD_over (a : List UInt8) (i : Nat) (h : a.length ≤ i) : a.getD i 0 = 0 := by
  rw [List.getD_eq_getElem?_getD, List.getElem?_eq_none h]; rfl

theorem quo_dbl (w : List UInt8) (hw : w.head? ≠ some 39) : ∀ t : List UInt8, quo (dbl t ++ 39 :: w) = some (t, (dbl t).length + 1)
  | [] => by
    cases w with
    | nil => rfl
    | cons d r =>
      have : ¬ d = 39 := by intro h; subst h; exact hw rfl
      simp [dbl, quo, this]
  | c :: r => by
    have ih := quo_dbl w hw r
    by_cases h : c = 39
    · subst h
      simp only [dbl, if_true, List.cons_append]
      rw [quo, if_pos rfl, if_pos rfl, ih]
      simp
    · simp only [dbl, if_neg h, List.cons_append]
      cases e : dbl r ++ 39 :: w with
      | nil => simp at e
      | cons d s =>
        rw [e] at ih
        rw [quo, if_neg h, ih]
        simp
theorem quo_ext (w : List UInt8) : ∀ (r t : List UInt8), quo r = some (t, r.length) → quo (r ++ 32 :: w) = some (t, r.length)
  | [], t, h => by simp [quo] at h
  | [c], t, h => by
    simp only [quo] at h
    by_cases hc : c = 39
    · rw [if_pos hc] at h
      cases h
      subst hc
      rfl
    · rw [if_neg hc] at h; cases h
  | c :: d :: r, t, h => by
    simp only [quo] at h
    simp only [List.cons_append, quo]
    by_cases hc : c = 39
    · rw [if_pos hc] at h ⊢
      by_cases hd : d = 39
      · rw [if_pos hd] at h ⊢
        cases e : quo r with
        | none => rw [e] at h; cases h
        | some x =>
          obtain ⟨t', n'⟩ := x
          rw [e] at h
          simp only [Option.map_some, Option.some.injEq, Prod.mk.injEq, List.length_cons] at h
          obtain ⟨rfl, h2⟩ := h
          obtain rfl : n' = r.length := by omega
          rw [quo_ext w r t' e]
          simp
      · rw [if_neg hd] at h
        simp at h
    · rw [if_neg hc] at h ⊢
      cases e : quo (d :: r) with
      | none => rw [e] at h; cases h
      | some x =>
        obtain ⟨t', n'⟩ := x
        rw [e] at h
        simp only [Option.map_some, Option.some.injEq, Prod.mk.injEq, List.length_cons] at h
        obtain ⟨rfl, h2⟩ := h
        have e' : quo (d :: r) = some (t', (d :: r).length) := by rw [e, List.length_cons]; congr 2; omega
        have := quo_ext w (d :: r) t' e'
        rw [List.cons_append] at this
        rw [this]
        simp
theorem numb_ext (s w : List UInt8) (h : numb s = s.length) (hs : 0 < s.length) : numb (s ++ 32 :: w) = s.length := by
  have h32 : run isD (32 :: w) = 0 := by rw [run_cons, if_neg (by decide)]
  have hr := run_le isD s
  unfold numb at h ⊢
  simp only at h ⊢
  rw [run_app]
  by_cases hd : run isD s = s.length
  · rw [if_pos hd, h32, Nat.add_zero, getD_end, if_neg (by intro g; exact absurd g.1 (by decide))]
  · rw [if_neg hd]
    by_cases g : s.getD (run isD s) 0 = 46 ∧ isD (s.getD (run isD s + 1) 0) = true
    · rw [if_pos g] at h
      have h1 : run isD s + 1 < s.length := getD_lt (c := s.getD (run isD s + 1) 0) rfl (by intro e; rw [e] at g; exact absurd g.2 (by decide))
      rw [getD_app _ _ _ (by omega), getD_app _ _ _ h1, if_pos g, List.drop_append_of_le_length (by omega), run_app]
      have hl : (s.drop (run isD s + 1)).length = s.length - (run isD s + 1) := List.length_drop
      rw [if_pos (by omega), h32, hl]
      omega
    · rw [if_neg g] at h; omega
theorem numb_take (m : List UInt8) : numb (m.take (numb m)) = numb m := by
  have hn := numb_le m
  have hr := run_le isD m
  by_cases g : m.getD (run isD m) 0 = 46 ∧ isD (m.getD (run isD m + 1) 0) = true
  · have e : numb m = run isD m + 1 + run isD (m.drop (run isD m + 1)) := by unfold numb; simp only; rw [if_pos g]
    have h1 : run isD m + 1 < m.length := getD_lt (c := m.getD (run isD m + 1) 0) rfl (by intro e; rw [e] at g; exact absurd g.2 (by decide))
    have he : 1 ≤ run isD (m.drop (run isD m + 1)) := by
      rw [List.drop_eq_getElem_cons h1, run_cons]
      have : m[run isD m + 1] = m.getD (run isD m + 1) 0 := by rw [List.getD_eq_getElem?_getD, List.getElem?_eq_getElem h1]; rfl
      rw [this, if_pos g.2]; omega
    have hle := run_le isD (m.drop (run isD m + 1))
    rw [List.length_drop] at hle
    have hd : run isD (m.take (numb m)) = run isD m := by
      have := run_app isD (m.take (numb m)) (m.drop (numb m))
      rw [List.take_append_drop] at this
      by_cases hq : run isD (m.take (numb m)) = (m.take (numb m)).length
      · rw [if_pos hq, List.length_take] at this; omega
      · rw [if_neg hq] at this; omega
    have ht : ∀ i, i < numb m → (m.take (numb m)).getD i 0 = m.getD i 0 := by
      intro i hi
      rw [List.getD_eq_getElem?_getD, List.getD_eq_getElem?_getD, List.getElem?_take_of_lt hi]
    have hu : ∀ z : List UInt8, numb z = if z.getD (run isD z) 0 = 46 ∧ isD (z.getD (run isD z + 1) 0) = true then run isD z + 1 + run isD (z.drop (run isD z + 1)) else run isD z := fun z => rfl
    rw [hu (m.take (numb m)), hd, ht _ (by omega), ht _ (by omega), if_pos g, List.drop_take, show numb m - (run isD m + 1) = run isD (m.drop (run isD m + 1)) by omega, take_run, e]
    congr 1
    have : ∀ x ∈ (m.drop (run isD m + 1)).takeWhile isD, isD x = true := fun x hx => take_mem hx
    rw [run_all isD _ this]
    rfl
  · have e : numb m = run isD m := by unfold numb; simp only; rw [if_neg g]
    rw [e, take_run]
    have ha : ∀ x ∈ m.takeWhile isD, isD x = true := fun x hx => take_mem hx
    have hl : (m.takeWhile isD).length = run isD m := rfl
    unfold numb
    simp only
    rw [run_all isD _ ha, getD_over _ _ (Nat.le_refl _), if_neg (by intro q; exact absurd q.1 (by decide))]
    exact hl

/-- how a token comes -/
theorem one_cases {m : List UInt8} {kd : Int} {t : List UInt8} {n : Nat} (h : one m = some (kd, t, n)) : ∃ c r, m = c :: r ∧
    ((isL c = true ∧ run isW m ≤ 32 ∧ kd = 1 ∧ t = (m.takeWhile isW).map low ∧ n = run isW m) ∨
     (isL c = false ∧ isD c = true ∧ numb m ≤ 40 ∧ isL (m.getD (numb m) 0) = false ∧ kd = 2 ∧ t = m.take (numb m) ∧ n = numb m) ∨
     (isL c = false ∧ isD c = false ∧ c = 39 ∧ kd = 3 ∧ t.length ≤ 256 ∧ ∃ n', quo r = some (t, n') ∧ n = n' + 1) ∨
     (isL c = false ∧ isD c = false ∧ ¬ c = 39 ∧ r ≠ [] ∧ isTwo (m.take 2) = true ∧ kd = 4 ∧ t = m.take 2 ∧ n = 2) ∨
     (isL c = false ∧ isD c = false ∧ ¬ c = 39 ∧ isS c = true ∧ kd = 4 ∧ t = [c] ∧ n = 1)) := by
  cases m with
  | nil => simp [one] at h
  | cons c r =>
    refine ⟨c, r, rfl, ?_⟩
    by_cases h1 : isL c = true
    · rw [one_L h1] at h
      by_cases g : run isW (c :: r) ≤ 32
      · rw [if_pos g] at h
        simp only [Option.some.injEq, Prod.mk.injEq] at h
        exact .inl ⟨h1, g, h.1.symm, h.2.1.symm, h.2.2.symm⟩
      · rw [if_neg g] at h; cases h
    · have h1' : isL c = false := by simpa using h1
      by_cases h2 : isD c = true
      · rw [one_D h1 h2] at h
        by_cases g : numb (c :: r) ≤ 40 ∧ isL ((c :: r).getD (numb (c :: r)) 0) = false
        · rw [if_pos g] at h
          simp only [Option.some.injEq, Prod.mk.injEq] at h
          exact .inr (.inl ⟨h1', h2, g.1, g.2, h.1.symm, h.2.1.symm, h.2.2.symm⟩)
        · rw [if_neg g] at h; cases h
      · have h2' : isD c = false := by simpa using h2
        by_cases h3 : c = 39
        · rw [one_Q h1 h2 h3] at h
          cases e : quo r with
          | none => rw [e] at h; cases h
          | some x =>
            obtain ⟨t', n'⟩ := x
            rw [e] at h
            simp only at h
            by_cases g : t'.length ≤ 256
            · rw [if_pos g] at h
              simp only [Option.some.injEq, Prod.mk.injEq] at h
              obtain ⟨rfl, rfl, rfl⟩ := h
              exact .inr (.inr (.inl ⟨h1', h2', h3, rfl, g, n', rfl, rfl⟩))
            · rw [if_neg g] at h; cases h
        · rw [one_S h1 h2 h3] at h
          unfold sg at h
          by_cases g : r ≠ [] ∧ isTwo ((c :: r).take 2) = true
          · rw [if_pos g] at h
            simp only [Option.some.injEq, Prod.mk.injEq] at h
            exact .inr (.inr (.inr (.inl ⟨h1', h2', h3, g.1, g.2, h.1.symm, h.2.1.symm, h.2.2.symm⟩)))
          · rw [if_neg g] at h
            by_cases h4 : isS c = true
            · rw [if_pos h4] at h
              simp only [Option.some.injEq, Prod.mk.injEq] at h
              exact .inr (.inr (.inr (.inr ⟨h1', h2', h3, h4, h.1.symm, h.2.1.symm, h.2.2.symm⟩)))
            · rw [if_neg h4] at h; cases h
theorem two_cases {l : List UInt8} (h : isTwo l = true) : l = [60, 61] ∨ l = [62, 61] ∨ l = [60, 62] ∨ l = [124, 124] := by
  unfold isTwo at h
  simpa [or_assoc] using h
theorem one_good {m : List UInt8} {kd : Int} {t : List UInt8} {n : Nat} (h : one m = some (kd, t, n)) : good (kd, t) := by
  obtain ⟨c, r, rfl, h | h | h | h | h⟩ := one_cases h
  · obtain ⟨h1, h2, rfl, rfl, _⟩ := h
    have hw := (low_facts c).2.2.2.2.2 h1
    have e : ((c :: r).takeWhile isW).map low = low c :: (r.takeWhile isW).map low := by rw [List.takeWhile_cons, if_pos hw, List.map_cons]
    have hall : ∀ x ∈ ((c :: r).takeWhile isW).map low, isW x = true := by
      intro x hx
      obtain ⟨y, hy, rfl⟩ := List.mem_map.1 hx
      exact (low_facts y).2.1 (take_mem hy)
    have hlen : (((c :: r).takeWhile isW).map low).length = run isW (c :: r) := by rw [List.length_map]; rfl
    have hmm : (((c :: r).takeWhile isW).map low).map low = ((c :: r).takeWhile isW).map low := by
      rw [List.map_map]; exact List.map_congr_left (fun x _ => (low_facts x).2.2.1)
    unfold good txt
    rw [if_neg (show ¬ (1 : Int) = 3 by decide)]
    rw [e] at hall hlen hmm ⊢
    rw [one_L ((low_facts c).1 h1), run_all isW _ hall, take_all hall, hmm, if_pos (by omega)]
  · obtain ⟨h1, h2, h3, h4, rfl, rfl, _⟩ := h
    have hn1 : 1 ≤ numb (c :: r) := by
      have : 1 ≤ run isD (c :: r) := by rw [run_cons, if_pos h2]; omega
      unfold numb
      simp only
      split <;> omega
    have hnl := numb_le (c :: r)
    have hl : ((c :: r).take (numb (c :: r))).length = numb (c :: r) := by rw [List.length_take]; omega
    have hnt := numb_take (c :: r)
    obtain ⟨q, hq⟩ : ∃ q, numb (c :: r) = q + 1 := ⟨numb (c :: r) - 1, by omega⟩
    have e : (c :: r).take (numb (c :: r)) = c :: r.take q := by rw [hq, List.take_succ_cons]
    unfold good txt
    rw [if_neg (show ¬ (2 : Int) = 3 by decide)]
    have hov := getD_over ((c :: r).take (numb (c :: r))) (numb (c :: r)) (by omega)
    have htk : ((c :: r).take (numb (c :: r))).take (numb (c :: r)) = (c :: r).take (numb (c :: r)) := by rw [List.take_take, Nat.min_self]
    rw [hl]
    rw [e] at hnt hov htk ⊢
    rw [one_D (by rw [h1]; decide) h2, hnt, hov, if_pos ⟨h3, by decide⟩, htk]
  · obtain ⟨_, _, _, rfl, hl, _⟩ := h
    have hq := quo_dbl [] (by simp) t
    unfold good txt
    simp only [if_true]
    rw [one_Q (by decide) (by decide) rfl, hq]
    simp only
    rw [if_pos hl]
    simp
  · obtain ⟨_, _, _, _, h5, rfl, rfl, _⟩ := h
    unfold good txt
    rw [if_neg (show ¬ (4 : Int) = 3 by decide)]
    rcases two_cases h5 with e | e | e | e <;> rw [e] <;> decide
  · obtain ⟨h1, h2, h3, h4, rfl, rfl, _⟩ := h
    unfold good txt
    rw [if_neg (show ¬ (4 : Int) = 3 by decide), one_S (by rw [h1]; decide) (by rw [h2]; decide) h3]
    unfold sg
    rw [if_neg (fun g => g.1 rfl), if_pos h4]
    rfl
theorem one_ext {s w : List UInt8} {kd : Int} {t : List UInt8} (h : one s = some (kd, t, s.length)) : one (s ++ 32 :: w) = some (kd, t, s.length) := by
  obtain ⟨c, r, rfl, h | h | h | h | h⟩ := one_cases h
  · obtain ⟨h1, h2, rfl, rfl, h3⟩ := h
    have hall := run_mem isW _ h3.symm
    have hr : run isW ((c :: r) ++ 32 :: w) = (c :: r).length := by rw [run_app, if_pos h3.symm, run_cons, if_neg (by decide)]; rfl
    have ht : ((c :: r) ++ 32 :: w).takeWhile isW = c :: r := by rw [← take_run, hr, List.take_left]
    rw [List.cons_append] at hr ht ⊢
    rw [one_L h1, hr, ht, take_all hall, if_pos (by omega)]
  · obtain ⟨h1, h2, h3, h4, rfl, rfl, h5⟩ := h
    have hn := numb_ext (c :: r) w h5.symm (by simp)
    have hg := getD_end (c :: r) 32 w
    rw [← h5, List.take_length]
    rw [List.cons_append] at hn hg ⊢
    rw [one_D (by rw [h1]; decide) h2, hn, hg, if_pos ⟨by omega, by decide⟩, ← List.cons_append, List.take_left]
  · obtain ⟨_, _, rfl, rfl, hl, n', hq, h5⟩ := h
    obtain rfl : n' = r.length := by rw [List.length_cons] at h5; omega
    rw [List.cons_append, one_Q (by decide) (by decide) rfl, quo_ext w r t hq]
    simp only
    rw [if_pos hl, List.length_cons]
  · obtain ⟨h1, h2, h3, h4, h5, rfl, rfl, h6⟩ := h
    obtain ⟨d, rfl⟩ : ∃ d, r = [d] := by
      cases r with
      | nil => exact absurd rfl h4
      | cons d r =>
        cases r with
        | nil => exact ⟨d, rfl⟩
        | cons e r => simp at h6
    rw [List.cons_append, one_S (by rw [h1]; decide) (by rw [h2]; decide) h3]
    unfold sg
    rw [if_pos ⟨by simp, by simpa using h5⟩]
    simp
  · obtain ⟨h1, h2, h3, h4, rfl, rfl, h6⟩ := h
    obtain rfl : r = [] := by
      cases r with
      | nil => rfl
      | cons d r => simp at h6
    rw [List.cons_append, one_S (by rw [h1]; decide) (by rw [h2]; decide) h3]
    unfold sg
    rw [if_neg, if_pos h4]
    · rfl
    · intro g
      rcases two_cases g.2 with e | e | e | e <;> simp at e
theorem sp_good {x : Int × List UInt8} (h : good x) (w : List UInt8) (hw : w = [] ∨ ∃ v, w = 32 :: v) : sp false (txt x ++ w) = 0 := by
  unfold good at h
  generalize txt x = s at h
  obtain ⟨c, r, rfl, hc⟩ := one_cases h
  have hp : isP c = false := by
    apply notP
    rcases hc with g | g | g | g | g
    · exact .inl g.1
    · exact .inr (.inl g.2.1)
    · exact .inr (.inr (.inl g.2.2.1))
    · obtain ⟨_, _, _, hr, g, _⟩ := g
      cases r with
      | nil => exact absurd rfl hr
      | cons d r =>
        rcases two_cases g with e | e | e | e <;> simp at e <;> (obtain ⟨rfl, _⟩ := e; decide)
    · exact .inr (.inr (.inr (.inl g.2.2.2.1)))
  rw [List.cons_append, spf, if_neg (by rw [hp]; decide), if_neg]
  rintro ⟨rfl, hh⟩
  rcases hc with g | g | g | g | g
  · exact absurd g.1 (by decide)
  · exact absurd g.2.1 (by decide)
  · exact absurd g.2.2.1 (by decide)
  · obtain ⟨_, _, _, hr, g, _⟩ := g
    cases r with
    | nil => exact absurd rfl hr
    | cons d r => rcases two_cases g with e | e | e | e <;> simp at e
  · obtain ⟨_, _, _, _, _, _, g⟩ := g
    obtain rfl : r = [] := by
      cases r with
      | nil => rfl
      | cons d r => simp at g
    rcases hw with rfl | ⟨v, rfl⟩
    · simp at hh
    · simp at hh
theorem txt_ne {x : Int × List UInt8} (h : good x) : txt x ≠ [] := by
  intro e
  unfold good at h
  rw [e] at h
  simp [one] at h
def kt (x : Int × List UInt8 × Nat) : Int × List UInt8 := (x.1, x.2.1)
theorem sp_jn {L : List (Int × List UInt8)} (hL : ∀ x ∈ L, good x) : sp false (jn L) = 0 := by
  match L with
  | [] => rfl
  | [x] => have := sp_good (hL x (by simp)) [] (.inl rfl); rwa [List.append_nil] at this
  | x :: y :: r => exact sp_good (hL x (by simp)) _ (.inr ⟨_, rfl⟩)
theorem toks_jn : ∀ (L : List (Int × List UInt8)) (f i : Nat), (∀ x ∈ L, good x) → (jn L).length < f → (toks f (jn L) i).2 = none ∧ (toks f (jn L) i).1.map kt = L
  | [], f, i, _, hf => by
    obtain ⟨f, rfl⟩ : ∃ q, f = q + 1 := ⟨f - 1, by omega⟩
    show (toks (f + 1) [] i).2 = none ∧ _
    rw [show jn [] = [] from rfl, toks_nil]
    exact ⟨rfl, rfl⟩
  | [x], f, i, hL, hf => by
    obtain ⟨f, rfl⟩ : ∃ q, f = q + 1 := ⟨f - 1, by omega⟩
    have hg : good x := hL x (by simp)
    have hne := txt_ne hg
    unfold good at hg
    simp only [jn] at hf ⊢
    cases e : txt x with
    | nil => exact absurd e hne
    | cons c r =>
      rw [e] at hg hf
      rw [toks_some f i hg, List.drop_length]
      obtain ⟨f, rfl⟩ : ∃ q, f = q + 1 := ⟨f - 1, by rw [List.length_cons] at hf; omega⟩
      have : (c :: r).drop ((c :: r).length + sp false []) = [] := List.drop_of_length_le (by omega)
      rw [this, toks_nil]
      exact ⟨rfl, rfl⟩
  | x :: y :: r, f, i, hL, hf => by
    obtain ⟨f, rfl⟩ : ∃ q, f = q + 1 := ⟨f - 1, by omega⟩
    have hg : good x := hL x (by simp)
    have hr : ∀ z ∈ y :: r, good z := fun z hz => hL z (List.mem_cons_of_mem _ hz)
    have hne := txt_ne hg
    have hsp := sp_jn hr
    unfold good at hg
    have hx := one_ext (w := jn (y :: r)) hg
    simp only [jn] at hf ⊢
    rw [List.length_append, List.length_cons] at hf
    have ih := fun g i => toks_jn (y :: r) g i hr
    generalize jn (y :: r) = w at *
    cases e : txt x with
    | nil => exact absurd e hne
    | cons c s =>
      rw [e] at hx hf
      have hd : ((c :: s) ++ 32 :: w).drop (c :: s).length = 32 :: w := List.drop_left
      have hs32 : sp false (32 :: w) = 1 := by rw [spf, if_pos (by decide), hsp]
      rw [List.cons_append] at hx hd ⊢
      rw [toks_some f i hx, hd, hs32]
      have hd2 : (c :: (s ++ 32 :: w)).drop ((c :: s).length + 1) = w := by
        rw [← List.drop_drop, hd]; rfl
      rw [hd2]
      have hw : w.length < f := by rw [List.length_cons] at hf; omega
      obtain ⟨h1, h2⟩ := ih f (i + ((c :: s).length + 1)) hw
      refine ⟨h1, ?_⟩
      simp only [List.map_cons, h2]
      rfl
theorem known_jn {L : List (Int × List UInt8)} (hL : ∀ x ∈ L, good x) : (known (jn L)).2 = none ∧ (known (jn L)).1.map kt = L := by
  unfold known
  rw [sp_jn hL]
  exact toks_jn L _ _ hL (by simp)
/-- may a token be? -/
def chk (x : Int × List UInt8) : Prop := ∃ at_, known (txt x) = ([(x.1, x.2, at_)], none)
theorem one_len {m : List UInt8} {kd : Int} {t : List UInt8} {n : Nat} (h : one m = some (kd, t, n)) (h3 : kd ≠ 3) : t.length = n := by
  have hn := (one_le h).2
  obtain ⟨c, r, rfl, h | h | h | h | h⟩ := one_cases h
  · obtain ⟨_, _, _, rfl, rfl⟩ := h; rw [List.length_map]; rfl
  · obtain ⟨_, _, _, _, _, rfl, rfl⟩ := h; rw [List.length_take]; omega
  · obtain ⟨_, _, _, rfl, _⟩ := h; exact absurd rfl h3
  · obtain ⟨_, _, _, _, _, _, rfl, rfl⟩ := h; rw [List.length_take]; omega
  · obtain ⟨_, _, _, _, _, rfl, rfl⟩ := h; rfl
theorem chk_good {x : Int × List UInt8} (h : chk x) : good x := by
  obtain ⟨kd, t⟩ := x
  obtain ⟨p, h⟩ := h
  unfold known at h
  have hsp := sp_le false (txt (kd, t))
  cases e : (txt (kd, t)).drop (sp false (txt (kd, t))) with
  | nil => rw [e, toks_nil] at h; cases h
  | cons c r =>
    rw [e] at h
    cases ho : one (c :: r) with
    | none => rw [toks_none _ _ ho] at h; cases h
    | some y =>
      obtain ⟨kd', t', n⟩ := y
      rw [toks_some _ _ ho] at h
      simp only [Prod.mk.injEq, List.cons.injEq] at h
      obtain ⟨⟨⟨rfl, rfl, _⟩, _⟩, _⟩ := h
      exact one_good ho
theorem known_good : ∀ (f : Nat) (m : List UInt8) (i : Nat), ∀ x ∈ (toks f m i).1, good (kt x) := by
  intro f
  induction f with
  | zero => intro m i x hx; simp [toks] at hx
  | succ f ih =>
    intro m i x hx
    cases m with
    | nil => rw [toks_nil] at hx; cases hx
    | cons c r =>
      cases ho : one (c :: r) with
      | none => rw [toks_none f i ho] at hx; cases hx
      | some y =>
        obtain ⟨kd, t, n⟩ := y
        rw [toks_some f i ho] at hx
        rcases List.mem_cons.1 hx with rfl | hx
        · exact one_good ho
        · exact ih _ _ x hx
end Go.Proofs.YtmpamcfeijnafaaDoor.Lex
