/- A text cut where its first bad token begins: its tokens are those ahead of it; where tokens stand. No program. -/
import Derived.Test.YtmpamcfeijnafaaDoorLexBack
namespace Go.Proofs.YtmpamcfeijnafaaDoor.Lex
open Go.RowKit Go.Proofs.YtmpamcfeijnafaaDoor.Str

theorem run_tk (p : UInt8 → Bool) (m : List UInt8) (q : Nat) (h : run p m ≤ q) : run p (m.take q) = run p m := by
  have e := run_app p (m.take q) (m.drop q)
  rw [List.take_append_drop] at e
  by_cases hq : run p (m.take q) = (m.take q).length
  · rw [if_pos hq, List.length_take] at e
    rw [hq, List.length_take]
    have := run_le p (m.drop q)
    rw [List.length_drop] at this
    omega
  · rw [if_neg hq] at e; exact e.symm
theorem takeWhile_tk (p : UInt8 → Bool) (m : List UInt8) (q : Nat) (h : run p m ≤ q) : (m.take q).takeWhile p = m.takeWhile p := by
  rw [← take_run, run_tk p m q h, List.take_take, Nat.min_eq_left h, take_run]
theorem getD_tk (m : List UInt8) (q i : Nat) : (m.take q).getD i 0 = if i < q then m.getD i 0 else 0 := by
  rw [List.getD_eq_getElem?_getD, List.getD_eq_getElem?_getD]
  split
  · rename_i h; rw [List.getElem?_take_of_lt h]
  · rename_i h; rw [List.getElem?_eq_none (by rw [List.length_take]; omega)]; rfl
theorem numb_tk (m : List UInt8) (q : Nat) (h : numb m ≤ q) : numb (m.take q) = numb m := by
  have hu : ∀ z : List UInt8, numb z = if z.getD (run isD z) 0 = 46 ∧ isD (z.getD (run isD z + 1) 0) = true then run isD z + 1 + run isD (z.drop (run isD z + 1)) else run isD z := fun z => rfl
  by_cases g : m.getD (run isD m) 0 = 46 ∧ isD (m.getD (run isD m + 1) 0) = true
  · have e := hu m
    rw [if_pos g] at e
    have h1 : run isD m + 1 < m.length := getD_lt (c := m.getD (run isD m + 1) 0) rfl (by intro e; rw [e] at g; exact absurd g.2 (by decide))
    have he : 1 ≤ run isD (m.drop (run isD m + 1)) := by
      rw [List.drop_eq_getElem_cons h1, run_cons]
      have : m[run isD m + 1] = m.getD (run isD m + 1) 0 := by rw [List.getD_eq_getElem?_getD, List.getElem?_eq_getElem h1]; rfl
      rw [this, if_pos g.2]; omega
    have d1 : (m.take q).getD (run isD m) 0 = m.getD (run isD m) 0 := by rw [getD_tk, if_pos (by omega)]
    have d2 : (m.take q).getD (run isD m + 1) 0 = m.getD (run isD m + 1) 0 := by rw [getD_tk, if_pos (by omega)]
    rw [hu (m.take q), run_tk isD m q (by omega), d1, d2, if_pos g, List.drop_take, run_tk isD _ _ (by omega), e]
  · have e := hu m
    rw [if_neg g] at e
    rw [hu (m.take q), run_tk isD m q (by omega), getD_tk, getD_tk, e, if_neg]
    rintro ⟨g1, g2⟩
    apply g
    split at g1
    · split at g2
      · exact ⟨g1, g2⟩
      · exact absurd g2 (by decide)
    · exact absurd g1 (by decide)
theorem quo_tk : ∀ (r t : List UInt8) (n q : Nat), quo r = some (t, n) → n ≤ q → quo (r.take q) = some (t, n)
  | [], t, n, q, h, hq => by simp [quo] at h
  | [c], t, n, q, h, hq => by
    have hl := (quo_le _ _ _ h).1
    rw [List.take_of_length_le (by simp; omega)]
    exact h
  | c :: d :: r, t, n, q, h, hq => by
    have hl := (quo_le _ _ _ h).1
    obtain ⟨q, rfl⟩ : ∃ z, q = z + 1 := ⟨q - 1, by omega⟩
    simp only [quo] at h
    by_cases hc : c = 39
    · rw [if_pos hc] at h
      by_cases hd : d = 39
      · rw [if_pos hd] at h
        cases e : quo r with
        | none => rw [e] at h; cases h
        | some x =>
          obtain ⟨t', n'⟩ := x
          rw [e] at h
          simp only [Option.map_some, Option.some.injEq, Prod.mk.injEq] at h
          obtain ⟨rfl, rfl⟩ := h
          obtain ⟨q, rfl⟩ : ∃ z, q = z + 1 := ⟨q - 1, by omega⟩
          rw [List.take_succ_cons, List.take_succ_cons, quo, if_pos hc, if_pos hd, quo_tk r t' n' q e (by omega)]
          rfl
      · rw [if_neg hd] at h
        simp only [Option.some.injEq, Prod.mk.injEq] at h
        obtain ⟨rfl, rfl⟩ := h
        cases q with
        | zero => rw [List.take_succ_cons, List.take_zero, quo, if_pos hc]
        | succ q => rw [List.take_succ_cons, List.take_succ_cons, quo, if_pos hc, if_neg hd]
    · rw [if_neg hc] at h
      cases e : quo (d :: r) with
      | none => rw [e] at h; cases h
      | some x =>
        obtain ⟨t', n'⟩ := x
        rw [e] at h
        simp only [Option.map_some, Option.some.injEq, Prod.mk.injEq] at h
        obtain ⟨rfl, rfl⟩ := h
        have h1 := (quo_le _ _ _ e).1
        have ih := quo_tk (d :: r) t' n' q e (by omega)
        obtain ⟨q, rfl⟩ : ∃ z, q = z + 1 := ⟨q - 1, by omega⟩
        rw [List.take_succ_cons] at ih
        rw [List.take_succ_cons, List.take_succ_cons, quo, if_neg hc, ih]
        rfl
theorem one_tk {m : List UInt8} {kd : Int} {t : List UInt8} {n : Nat} (h : one m = some (kd, t, n)) (q : Nat) (hq : n ≤ q) : one (m.take q) = some (kd, t, n) := by
  have hn := (one_le h).1
  obtain ⟨q, rfl⟩ : ∃ z, q = z + 1 := ⟨q - 1, by omega⟩
  have h0 := h
  obtain ⟨c, r, rfl, h | h | h | h | h⟩ := one_cases h
  · obtain ⟨h1, h2, rfl, rfl, rfl⟩ := h
    have a1 := run_tk isW (c :: r) (q + 1) hq
    have a2 := takeWhile_tk isW (c :: r) (q + 1) hq
    rw [List.take_succ_cons] at a1 a2 ⊢
    rw [one_L h1, a1, a2, if_pos h2]
  · obtain ⟨h1, h2, h3, h4, rfl, rfl, rfl⟩ := h
    have a1 := numb_tk (c :: r) (q + 1) hq
    have a2 := getD_tk (c :: r) (q + 1) (numb (c :: r))
    have a3 : ((c :: r).take (q + 1)).take (numb (c :: r)) = (c :: r).take (numb (c :: r)) := by rw [List.take_take, Nat.min_eq_left hq]
    have a4 : isL (((c :: r).take (q + 1)).getD (numb (c :: r)) 0) = false := by
      rw [a2]
      split
      · exact h4
      · decide
    rw [List.take_succ_cons] at a1 a3 a4 ⊢
    rw [one_D (by rw [h1]; decide) h2, a1, a3, if_pos ⟨h3, a4⟩]
  · obtain ⟨h1, h2, h3, rfl, hl, n', hq', rfl⟩ := h
    rw [List.take_succ_cons, one_Q (by rw [h1]; decide) (by rw [h2]; decide) h3, quo_tk r t n' q hq' (by omega)]
    simp only
    rw [if_pos hl]
  · obtain ⟨h1, h2, h3, h4, h5, rfl, rfl, rfl⟩ := h
    obtain ⟨q, rfl⟩ : ∃ z, q = z + 1 := ⟨q - 1, by omega⟩
    obtain ⟨d, r, rfl⟩ : ∃ d s, r = d :: s := by
      cases r with
      | nil => exact absurd rfl h4
      | cons d r => exact ⟨d, r, rfl⟩
    rw [List.take_succ_cons, List.take_succ_cons, one_S (by rw [h1]; decide) (by rw [h2]; decide) h3]
    unfold sg
    have : (c :: d :: r.take q).take 2 = (c :: d :: r).take 2 := rfl
    rw [this, if_pos ⟨by simp, h5⟩]
  · obtain ⟨h1, h2, h3, h4, rfl, rfl, rfl⟩ := h
    have n1 : ¬ isL c = true := by rw [h1]; decide
    have n2 : ¬ isD c = true := by rw [h2]; decide
    rw [one_S n1 n2 h3] at h0
    rw [List.take_succ_cons, one_S n1 n2 h3]
    unfold sg at h0 ⊢
    by_cases g : r ≠ [] ∧ isTwo ((c :: r).take 2) = true
    · rw [if_pos g] at h0
      simp at h0
    · rw [if_neg, if_pos h4]
      rintro ⟨g1, g2⟩
      apply g
      cases r with
      | nil => simp at g1
      | cons d r =>
        cases q with
        | zero => simp at g1
        | succ q => exact ⟨by simp, g2⟩
theorem sp_tk : ∀ (b : Bool) (m : List UInt8) (q : Nat), sp b m ≤ q → sp b (m.take q) = sp b m
  | _, [], q, _ => by simp
  | true, c :: r, q, h => by
    rw [spt] at h
    obtain ⟨q, rfl⟩ : ∃ z, q = z + 1 := ⟨q - 1, by split at h <;> omega⟩
    rw [List.take_succ_cons, spt, spt]
    by_cases hc : c = 10
    · rw [if_pos hc] at h
      rw [if_pos hc, if_pos hc, sp_tk false r q (by omega)]
    · rw [if_neg hc] at h
      rw [if_neg hc, if_neg hc, sp_tk true r q (by omega)]
  | false, c :: r, q, h => by
    rw [spf] at h
    by_cases hp : isP c = true
    · rw [if_pos hp] at h
      obtain ⟨q, rfl⟩ : ∃ z, q = z + 1 := ⟨q - 1, by omega⟩
      rw [List.take_succ_cons, spf, spf, if_pos hp, if_pos hp, sp_tk false r q (by omega)]
    · rw [if_neg hp] at h
      by_cases hd : c = 45 ∧ r.head? = some 45
      · rw [if_pos hd] at h
        obtain ⟨q, rfl⟩ : ∃ z, q = z + 1 := ⟨q - 1, by omega⟩
        have h1 : 1 ≤ sp true r := by
          cases r with
          | nil => simp at hd
          | cons d r => rw [spt]; split <;> omega
        have hh : (r.take q).head? = some 45 := by
          cases r with
          | nil => simp at hd
          | cons d r =>
            obtain ⟨q, rfl⟩ : ∃ z, q = z + 1 := ⟨q - 1, by omega⟩
            exact hd.2
        rw [List.take_succ_cons, spf, spf, if_neg hp, if_neg hp, if_pos hd, if_pos ⟨hd.1, hh⟩, sp_tk true r q (by omega)]
      · rw [spf c r, if_neg hp, if_neg hd]
        cases q with
        | zero => rfl
        | succ q =>
          rw [List.take_succ_cons, spf, if_neg hp, if_neg]
          rintro ⟨g1, g2⟩
          apply hd
          refine ⟨g1, ?_⟩
          cases r with
          | nil => simp at g2
          | cons d r =>
            cases q with
            | zero => simp at g2
            | succ q => exact g2
theorem toks_fuel : ∀ (f g : Nat) (m : List UInt8) (i : Nat), m.length < f → m.length < g → toks f m i = toks g m i := by
  intro f
  induction f with
  | zero => intro g m i h; omega
  | succ f ih =>
    intro g m i h1 h2
    obtain ⟨g, rfl⟩ : ∃ z, g = z + 1 := ⟨g - 1, by omega⟩
    cases m with
    | nil => rw [toks_nil, toks_nil]
    | cons c r =>
      cases ho : one (c :: r) with
      | none => rw [toks_none f i ho, toks_none g i ho]
      | some y =>
        obtain ⟨kd, t, n⟩ := y
        have hn := (one_le ho).1
        rw [List.length_cons] at h1 h2
        have : ((c :: r).drop (n + sp false ((c :: r).drop n))).length ≤ r.length := by rw [List.length_drop, List.length_cons]; omega
        rw [toks_some f i ho, toks_some g i ho, ih g _ _ (by omega) (by omega)]
theorem toks_tk : ∀ (f : Nat) (m : List UInt8) (i p : Nat), m.length < f → (toks f m i).2 = some p → i ≤ p ∧ p < i + m.length ∧ toks f (m.take (p - i)) i = ((toks f m i).1, none) := by
  intro f
  induction f with
  | zero => intro m i p h; omega
  | succ f ih =>
    intro m i p h e
    cases m with
    | nil => rw [toks_nil] at e; cases e
    | cons c r =>
      cases ho : one (c :: r) with
      | none =>
        rw [toks_none f i ho] at e ⊢
        obtain rfl : i = p := Option.some.inj e
        refine ⟨Nat.le_refl _, by rw [List.length_cons]; omega, ?_⟩
        rw [Nat.sub_self, List.take_zero, toks_nil]
      | some y =>
        obtain ⟨kd, t, n⟩ := y
        have hn := one_le ho
        have hsp := sp_le false ((c :: r).drop n)
        rw [List.length_drop] at hsp
        rw [toks_some f i ho] at e ⊢
        have hr : ((c :: r).drop (n + sp false ((c :: r).drop n))).length = (c :: r).length - (n + sp false ((c :: r).drop n)) := List.length_drop
        obtain ⟨g1, g2, g3⟩ := ih ((c :: r).drop (n + sp false ((c :: r).drop n))) (i + (n + sp false ((c :: r).drop n))) p (by omega) e
        refine ⟨by omega, by omega, ?_⟩
        have o := one_tk ho (p - i) (by omega)
        have d1 : ((c :: r).take (p - i)).drop n = ((c :: r).drop n).take (p - i - n) := List.drop_take ..
        have s1 : sp false (((c :: r).take (p - i)).drop n) = sp false ((c :: r).drop n) := by rw [d1]; exact sp_tk _ _ _ (by omega)
        have d2 : ((c :: r).take (p - i)).drop (n + sp false ((c :: r).drop n)) = ((c :: r).drop (n + sp false ((c :: r).drop n))).take (p - (i + (n + sp false ((c :: r).drop n)))) := by
          rw [List.drop_take]; congr 1; omega
        cases q : (c :: r).take (p - i) with
        | nil => rw [q] at o; simp [one] at o
        | cons c' r' =>
          rw [q] at o s1 d2
          rw [toks_some f i o, s1, d2, g3]
theorem known_tk {l : List UInt8} {p : Nat} (h : (known l).2 = some p) : p < l.length ∧ known (l.take p) = ((known l).1, none) := by
  unfold known at h ⊢
  have hs := sp_le false l
  obtain ⟨g1, g2, g3⟩ := toks_tk _ _ _ _ (by rw [List.length_drop]; omega) h
  rw [List.length_drop] at g2
  have s1 := sp_tk false l p g1
  refine ⟨by omega, ?_⟩
  rw [s1, List.drop_take, ← g3]
  exact toks_fuel _ _ _ _ (by rw [List.length_take, List.length_take, List.length_drop]; omega) (by rw [List.length_take, List.length_drop]; omega)
/-- where tokens stand -/
def placed : Int → Nat → List (Int × List UInt8 × Nat) → Prop
  | _, _, [] => True
  | last, n, x :: r => last < (x.2.2 : Int) ∧ x.2.2 < n ∧ placed (x.2.2 : Int) n r
theorem toks_placed : ∀ (f : Nat) (m : List UInt8) (i : Nat) (last : Int) (n : Nat), last < (i : Int) → i + m.length ≤ n → placed last n (toks f m i).1 := by
  intro f
  induction f with
  | zero => intro m i last n _ _; simp [toks, placed]
  | succ f ih =>
    intro m i last n h1 h2
    cases m with
    | nil => rw [toks_nil]; simp [placed]
    | cons c r =>
      cases ho : one (c :: r) with
      | none => rw [toks_none f i ho]; simp [placed]
      | some y =>
        obtain ⟨kd, t, k⟩ := y
        have hn := one_le ho
        have hsp := sp_le false ((c :: r).drop k)
        rw [List.length_drop] at hsp
        rw [List.length_cons] at h2 hn hsp
        rw [toks_some f i ho]
        refine ⟨h1, by show i < n; omega, ?_⟩
        exact ih _ _ _ _ (by show (i : Int) < _; omega) (by rw [List.length_drop, List.length_cons]; omega)
theorem known_placed (l : List UInt8) : placed (-1) l.length (known l).1 := by
  have hs := sp_le false l
  unfold known
  exact toks_placed _ _ _ _ _ (by omega) (by rw [List.length_drop]; omega)
/-- the place of the last token -/
def lastOf : Int → List (Int × List UInt8 × Nat) → Int
  | last, [] => last
  | _, x :: r => lastOf (x.2.2 : Int) r
theorem toks_last : ∀ (f : Nat) (m : List UInt8) (i p : Nat) (last : Int), m.length < f → last < (i : Int) → (toks f m i).2 = some p → lastOf last (toks f m i).1 < (p : Int) := by
  intro f
  induction f with
  | zero => intro m i p last h; omega
  | succ f ih =>
    intro m i p last h h1 e
    cases m with
    | nil => rw [toks_nil] at e; cases e
    | cons c r =>
      cases ho : one (c :: r) with
      | none =>
        rw [toks_none f i ho] at e ⊢
        obtain rfl : i = p := Option.some.inj e
        exact h1
      | some y =>
        obtain ⟨kd, t, n⟩ := y
        have hn := one_le ho
        rw [List.length_cons] at h
        rw [toks_some f i ho] at e ⊢
        exact ih _ _ _ _ (by rw [List.length_drop, List.length_cons]; omega) (by show (i : Int) < _; omega) e
theorem known_last {l : List UInt8} {p : Nat} (h : (known l).2 = some p) : lastOf (-1) (known l).1 < (p : Int) := by
  unfold known at h ⊢
  exact toks_last _ _ _ _ _ (by rw [List.length_drop]; have := sp_le false l; omega) (by omega) h
/-- a token that is gone through may be: it is known alone -/
theorem chk_known {x : Int × List UInt8} (h : good x) : known (txt x) = ([(x.1, x.2, 0)], none) := by
  have h1 := sp_good h [] (.inl rfl)
  rw [List.append_nil] at h1
  have hg := h
  unfold good at h
  unfold known
  rw [h1, List.drop_zero]
  cases e : txt x with
  | nil => exact absurd e (txt_ne hg)
  | cons c r =>
    rw [e] at h
    rw [toks_some _ _ h, List.drop_length, show sp false [] = 0 from rfl, Nat.add_zero, List.drop_length, List.length_cons, toks_nil]
end Go.Proofs.YtmpamcfeijnafaaDoor.Lex
