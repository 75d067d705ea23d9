/- What the printed reference for the tokens computes: space, words, numbers, texts, signs. -/
import Derived.Test.YtmpamcfeijnafaaPureLexB
import Derived.Test.YtmpamcfeijnafaaR10
import Derived.Test.YtmpamcfeijnafaaR11
import Derived.Test.YtmpamcfeijnafaaR12
import Derived.Test.YtmpamcfeijnafaaR13
import Derived.Test.YtmpamcfeijnafaaR6
import Derived.Test.YtmpamcfeijnafaaR7
import Derived.Test.YtmpamcfeijnafaaR8
import Derived.Test.YtmpamcfeijnafaaR9
namespace Go.Proofs.Ytmpamcfeijnafaa.Pure
open Go.RowKit Go.Proofs.Ytmpamcfeijnafaa.R Go.Proofs.YtmpamcfeijnafaaW.PrintWords Go.Proofs.YtmpamcfeijnafaaW.PrintLast Go.Proofs.Ytmpamcfeijnafaa.Str Go.Proofs.Ytmpamcfeijnafaa.Lex

theorem by256 {p : UInt8 → Prop} (h : ∀ n : Fin 256, p (UInt8.ofNat n.val)) (c : UInt8) : p c := by
  have := h ⟨c.toNat, c.toNat_lt⟩
  rwa [UInt8.ofNat_toNat] at this
set_option maxRecDepth 100000 in
theorem rletter (c : UInt8) : colonnaderef16_letter.f (c.toNat : Int) = some (isL c) := by
  refine by256 (p := fun c => colonnaderef16_letter.f (c.toNat : Int) = some (isL c)) ?_ c
  decide
set_option maxRecDepth 100000 in
theorem rdigit (c : UInt8) : colonnaderef16_digit.f (c.toNat : Int) = some (isD c) := by
  refine by256 (p := fun c => colonnaderef16_digit.f (c.toNat : Int) = some (isD c)) ?_ c
  decide
set_option maxRecDepth 100000 in
theorem rspace (c : UInt8) : colonnaderef16_space.f (c.toNat : Int) = some (isP c) := by
  refine by256 (p := fun c => colonnaderef16_space.f (c.toNat : Int) = some (isP c)) ?_ c
  decide
set_option maxRecDepth 100000 in
theorem isW_eq (c : UInt8) : isW c = (isL c || isD c) := by
  refine by256 (p := fun c => isW c = (isL c || isD c)) ?_ c
  decide
set_option maxRecDepth 100000 in
theorem low_eq (c : UInt8) : low c = if (c.toNat : Int) ≥ 65 then (if (c.toNat : Int) ≤ 90 then UInt8.ofNat (((c.toNat : Int) + 32) % 256).toNat else UInt8.ofNat ((c.toNat : Int)).toNat) else UInt8.ofNat ((c.toNat : Int)).toNat := by
  refine by256 (p := fun c => low c = if (c.toNat : Int) ≥ 65 then (if (c.toNat : Int) ≤ 90 then UInt8.ofNat (((c.toNat : Int) + 32) % 256).toNat else UInt8.ofNat ((c.toNat : Int)).toNat) else UInt8.ofNat ((c.toNat : Int)).toNat) ?_ c
  decide
theorem at_B (l : List UInt8) (i : Nat) : colonnaderef16_at.f (B l) (i : Int) = some (((l.getD i 0).toNat : Nat) : Int) := by
  unfold colonnaderef16_at.f
  by_cases h : i < l.length
  · rw [if_pos (by rw [B_size]; omega), if_pos (by omega), bt_B]
  · rw [if_neg (by rw [B_size]; omega), List.getD_eq_getElem?_getD, List.getElem?_eq_none (by omega)]
    rfl
theorem nat_eq {a : UInt8} {n : Nat} (h : n < 256) : ((a.toNat : Int) = (n : Int)) ↔ a = UInt8.ofNat n := by
  constructor
  · intro e; apply UInt8.toNat_inj.mp; rw [UInt8.toNat_ofNat']; omega
  · rintro rfl; rw [UInt8.toNat_ofNat']; omega

theorem eq10 {a : UInt8} : ((a.toNat : Int) = 10) ↔ a = 10 := nat_eq (n := 10) (by omega)
theorem eq39 {a : UInt8} : ((a.toNat : Int) = 39) ↔ a = 39 := nat_eq (n := 39) (by omega)
theorem eq45 {a : UInt8} : ((a.toNat : Int) = 45) ↔ a = 45 := nat_eq (n := 45) (by omega)
theorem eq46 {a : UInt8} : ((a.toNat : Int) = 46) ↔ a = 46 := nat_eq (n := 46) (by omega)
theorem dec32 (n : Nat) : decide ((n : Int) ≤ 32) = decide (n ≤ 32) := decide_eq_decide.mpr (by omega)
theorem pass_both (l : List UInt8) (hl : l.length ≤ 100000000) : ∀ (d k i : Nat), l.length = i + d →
    (4 * d + 3 < k → colonnaderef16_pass.l0 k (B l) (i : Int) = some ((i + sp false (l.drop i) : Nat) : Int)) ∧ (4 * d + 4 < k → colonnaderef16_pass.l1 k (B l) (i : Int) = some ((i + sp true (l.drop i) : Nat) : Int)) := by
  intro d
  induction d with
  | zero =>
    intro k i h
    rw [List.drop_of_length_le (by omega)]
    have e0 : ∀ q, colonnaderef16_pass.l0 (q + 1) (B l) (i : Int) = some ((i : Nat) : Int) := by
      intro q
      unfold colonnaderef16_pass.l0
      rw [if_neg (by rw [B_size]; omega)]
    refine ⟨fun hk => ?_, fun hk => ?_⟩
    · obtain ⟨k, rfl⟩ : ∃ q, k = q + 1 := ⟨k - 1, by omega⟩
      rw [e0]; rfl
    obtain ⟨k, rfl⟩ : ∃ q, k = q + 1 + 1 := ⟨k - 2, by omega⟩
    unfold colonnaderef16_pass.l1
    rw [if_neg (by rw [B_size]; omega), e0]
    rfl
  | succ d ih =>
    have f0 : ∀ (k i : Nat), l.length = i + (d + 1) → 4 * (d + 1) + 3 < k → colonnaderef16_pass.l0 k (B l) (i : Int) = some ((i + sp false (l.drop i) : Nat) : Int) := by
      intro k i h hk
      obtain ⟨k, rfl⟩ : ∃ q, k = q + 1 + 1 + 1 := ⟨k - 3, by omega⟩
      cases e : l.drop i with
      | nil => have := List.drop_eq_nil_iff.1 e; omega
      | cons c r =>
        obtain ⟨g1, g2, g3, g4⟩ := drop_cons e
        unfold colonnaderef16_pass.l0
        rw [if_pos (by rw [B_size]; omega), if_pos (by omega), bt_B, g2, rspace, Option.bind_some, w64_succ i (by omega), at_B, Option.bind_some]
        by_cases h1 : isP c = true
        · rw [if_pos h1, (ih (k + 1 + 1) (i + 1) (by omega)).1 (by omega), g3]
          rw [spf, if_pos h1]
          congr 2; omega
        · rw [if_neg h1]
          have hs : sp false (c :: r) = if c = 45 ∧ r.head? = some 45 then 1 + sp true r else 0 := by
            rw [spf, if_neg h1]
          have hh : l.getD (i + 1) 0 = 45 ↔ r.head? = some 45 := by
            cases r with
            | nil =>
              rw [List.length_nil] at g4
              rw [List.getD_eq_getElem?_getD, List.getElem?_eq_none (by omega)]
              simp
            | cons q r =>
              obtain ⟨_, f2, _, _⟩ := drop_cons g3
              rw [f2]; simp
          rw [hs]
          by_cases h2 : c = 45
          · rw [if_pos (eq45.2 h2)]
            by_cases h3 : r.head? = some 45
            · rw [hh.2 h3, if_pos ⟨h2, h3⟩]
              unfold colonnaderef16_pass.j1
              rw [if_pos (by decide)]
              unfold colonnaderef16_pass.l1
              rw [if_pos (by rw [B_size]; omega), if_pos (by omega), bt_B, g2, h2, if_neg (by decide), w64_succ i (by omega), (ih k (i + 1) (by omega)).2 (by omega), g3]
              congr 2; omega
            · rw [if_neg (fun g => h3 g.2)]
              unfold colonnaderef16_pass.j1
              rw [if_neg]
              · rfl
              · rw [beq_iff_eq]
                intro g
                exact h3 (hh.1 (eq45.1 g))
          · rw [if_neg (fun g => h2 (eq45.1 g)), if_neg (fun g => h2 g.1)]
            unfold colonnaderef16_pass.j1
            rw [if_neg (by decide)]
            rfl
    intro k i h
    refine ⟨fun hk => f0 k i h (by omega), fun hk => ?_⟩
    obtain ⟨k, rfl⟩ : ∃ q, k = q + 1 := ⟨k - 1, by omega⟩
    cases e : l.drop i with
    | nil => have := List.drop_eq_nil_iff.1 e; omega
    | cons c r =>
      obtain ⟨g1, g2, g3, g4⟩ := drop_cons e
      unfold colonnaderef16_pass.l1
      rw [if_pos (by rw [B_size]; omega), if_pos (by omega), bt_B, g2]
      rw [spt]
      by_cases h1 : c = 10
      · rw [if_pos (eq10.2 h1), if_pos h1, f0 k i h (by omega), e]
        rw [spf, if_pos (by rw [h1]; decide)]
      · rw [if_neg (fun g => h1 (eq10.1 g)), if_neg h1, w64_succ i (by omega), (ih k (i + 1) (by omega)).2 (by omega), g3]
        congr 2; omega
theorem pass_B (k : Nat) (l : List UInt8) (hl : l.length ≤ 100000000) (i : Nat) (h : i ≤ l.length) (hk : 4 * l.length + 4 < k) : colonnaderef16_pass.f k (B l) (i : Int) = some ((i + sp false (l.drop i) : Nat) : Int) := by
  unfold colonnaderef16_pass.f
  exact (pass_both l hl (l.length - i) k i (by omega)).1 (by omega)

theorem rword_loop (l : List UInt8) (hl : l.length ≤ 100000000) (p r : Int) (q : ByteArray) : ∀ (d k i : Nat) (x8 : List Int), l.length = i + d → x8.length ≤ i → d + d + 2 < k →
    colonnaderef16_word.l0 k (B l) (i : Int) x8 p q r = some (p, B (x8.map (fun n => UInt8.ofNat n.toNat) ++ ((l.drop i).takeWhile isW).map low), r, ((i + run isW (l.drop i) : Nat) : Int), decide (x8.length + run isW (l.drop i) ≤ 32)) := by
  intro d
  induction d with
  | zero =>
    intro k i x8 h hx hk
    obtain ⟨k, rfl⟩ : ∃ q, k = q + 1 + 1 := ⟨k - 2, by omega⟩
    rw [List.drop_of_length_le (by omega)]
    unfold colonnaderef16_word.l0
    rw [if_neg (by rw [B_size]; omega)]
    unfold colonnaderef16_word.j1
    rw [if_neg (by decide), B_nums, dec32]
    simp [run]
    rfl
  | succ d ih =>
    intro k i x8 h hx hk
    obtain ⟨k, rfl⟩ : ∃ q, k = q + 1 + 1 := ⟨k - 2, by omega⟩
    cases e : l.drop i with
    | nil => have := List.drop_eq_nil_iff.1 e; omega
    | cons c w =>
      obtain ⟨g1, g2, g3, g4⟩ := drop_cons e
      have hj : colonnaderef16_word.l0 (k + 1 + 1) (B l) (i : Int) x8 p q r = colonnaderef16_word.j1 (k + 1) (B l) (i : Int) x8 (isW c) p q r := by
        unfold colonnaderef16_word.l0
        rw [if_pos (by rw [B_size]; omega), if_pos (by omega), bt_B, g2, rletter, rdigit, Option.bind_some, Option.bind_some, isW_eq]
        cases isL c
        · rw [if_neg (by decide)]; rfl
        · rw [if_pos rfl]; rfl
      rw [hj]
      unfold colonnaderef16_word.j1
      rw [run_cons, List.takeWhile_cons]
      by_cases h1 : isW c = true
      · have hs : ∀ v : Int, UInt8.ofNat v.toNat = low c → colonnaderef16_word.l0 k (B l) ((i + 1 : Nat) : Int) (x8 ++ [v]) p q r = some (p, B (x8.map (fun n => UInt8.ofNat n.toNat) ++ (c :: w.takeWhile isW).map low), r, ((i + (1 + run isW w) : Nat) : Int), decide (x8.length + (1 + run isW w) ≤ 32)) := by
          intro v hv
          rw [ih k (i + 1) _ (by omega) (by rw [List.length_append]; simp; omega) (by omega), g3]
          have e1 : (x8 ++ [v]).map (fun n : Int => UInt8.ofNat n.toNat) ++ (w.takeWhile isW).map low = x8.map (fun n : Int => UInt8.ofNat n.toNat) ++ (c :: w.takeWhile isW).map low := by
            rw [List.map_append, List.append_assoc, List.map_cons, List.map_cons, hv]; rfl
          rw [e1, List.length_append, List.length_singleton, Nat.add_assoc, Nat.add_assoc]
        rw [if_pos h1, if_pos h1, if_pos h1, if_pos (by omega), if_pos (by rw [B_size]; omega), bt_B, g2, w64_succ i (by omega)]
        have hlow := low_eq c
        have h8 : x8.length < 140737488355328 := by omega
        by_cases a : (c.toNat : Int) ≥ 65
        · rw [if_pos a] at hlow ⊢
          by_cases b : (c.toNat : Int) ≤ 90
          · rw [if_pos b] at hlow ⊢
            rw [if_pos h8]; exact hs _ hlow.symm
          · rw [if_neg b] at hlow ⊢
            rw [if_pos h8]; exact hs _ hlow.symm
        · rw [if_neg a] at hlow ⊢
          rw [if_pos h8]; exact hs _ hlow.symm
      · rw [if_neg h1, if_neg h1, if_neg h1, B_nums, dec32]
        simp
theorem rword_B (k : Nat) (l : List UInt8) (hl : l.length ≤ 100000000) (i : Nat) (h : i ≤ l.length) (hk : l.length + l.length + 2 < k) :
    colonnaderef16_word.f k (B l) (i : Int) = some (1, B (((l.drop i).takeWhile isW).map low), (i : Int), ((i + run isW (l.drop i) : Nat) : Int), decide (run isW (l.drop i) ≤ 32)) := by
  unfold colonnaderef16_word.f
  rw [rword_loop l hl 1 (i : Int) _ (l.length - i) k i [] (by omega) (by simp) (by omega)]
  simp

/-- a number's end -/
def fin (l : List UInt8) (s e : Nat) : Option (Int × ByteArray × Int × Int × Bool) := some (2, B ((l.take e).drop s), (s : Int), (e : Int), decide (e - s ≤ 40) && !isL (l.getD e 0))
theorem fin_txt (l : List UInt8) (s e : Nat) (h : s ≤ e) (g : e ≤ l.length) (hl : l.length ≤ 100000000) :
    (if (0 : Int) ≤ (s : Int) then (if (s : Int) ≤ (e : Int) then (if (e : Int) ≤ ((B l).size : Int) then (if (wrap64 ((e : Int) - (s : Int))) ≤ 40 then ((colonnaderef16_at.f (B l) (e : Int)).bind fun t149 => ((colonnaderef16_letter.f t149).bind fun t150 => (some ((2 : Int), (B l).extract ((s : Int)).toNat ((e : Int)).toNat, (s : Int), (e : Int), !t150)))) else (some (2, (B l).extract ((s : Int)).toNat ((e : Int)).toNat, (s : Int), (e : Int), false))) else (none)) else (none)) else (none)) = fin l s e := by
  rw [if_pos (by omega), if_pos (by omega), if_pos (by rw [B_size]; omega), w64_sub e s (by omega) h, at_B, Option.bind_some, rletter, Option.bind_some, Int.toNat_natCast, Int.toNat_natCast, B_extract]
  unfold fin
  by_cases c : e - s ≤ 40
  · rw [if_pos (by omega), decide_eq_true c, Bool.true_and]
  · rw [if_neg (by omega), decide_eq_false c, Bool.false_and]
theorem rnum_l1 (l : List UInt8) (hl : l.length ≤ 100000000) (s : Nat) : ∀ (d k i : Nat), l.length = i + d → s ≤ i → d < k → colonnaderef16_number.l1 k (B l) (i : Int) (s : Int) = fin l s (i + run isD (l.drop i)) := by
  intro d
  induction d with
  | zero =>
    intro k i h hs hk
    obtain ⟨k, rfl⟩ : ∃ q, k = q + 1 := ⟨k - 1, by omega⟩
    rw [List.drop_of_length_le (by omega)]
    unfold colonnaderef16_number.l1
    rw [if_neg (by rw [B_size]; omega)]
    exact fin_txt l s i hs (by omega) hl
  | succ d ih =>
    intro k i h hs hk
    obtain ⟨k, rfl⟩ : ∃ q, k = q + 1 := ⟨k - 1, by omega⟩
    cases e : l.drop i with
    | nil => have := List.drop_eq_nil_iff.1 e; omega
    | cons c w =>
      obtain ⟨g1, g2, g3, g4⟩ := drop_cons e
      unfold colonnaderef16_number.l1
      rw [if_pos (by rw [B_size]; omega), if_pos (by omega), bt_B, g2, rdigit, Option.bind_some, run_cons]
      by_cases h1 : isD c = true
      · rw [if_pos h1, if_pos h1, w64_succ i (by omega), ih k (i + 1) (by omega) (by omega) (by omega), g3]
        congr 1; omega
      · rw [if_neg h1, if_neg h1]
        exact fin_txt l s i hs (by omega) hl
theorem rnum_j1 (l : List UInt8) (hl : l.length ≤ 100000000) (s k i : Nat) (h : i ≤ l.length) (hs : s ≤ i) (hk : l.length + 2 < k) : colonnaderef16_number.j1 k (B l) (i : Int) (s : Int) = fin l s (if l.getD i 0 = 46 ∧ isD (l.getD (i + 1) 0) = true then i + 1 + run isD (l.drop (i + 1)) else i) := by
  obtain ⟨k, rfl⟩ : ∃ q, k = q + 1 + 1 := ⟨k - 2, by omega⟩
  rw [colonnaderef16_number.j1, at_B, Option.bind_some, w64_succ i (by omega), at_B, Option.bind_some, rdigit, Option.bind_some]
  by_cases h1 : l.getD i 0 = 46
  · rw [if_pos (eq46.2 h1)]
    rw [colonnaderef16_number.j2]
    have := getD_lt h1 (by decide)
    by_cases h2 : isD (l.getD (i + 1) 0) = true
    · rw [if_pos h2, if_pos ⟨h1, h2⟩, w64_succ i (by omega)]
      exact rnum_l1 l hl s (l.length - (i + 1)) k (i + 1) (by omega) (by omega) (by omega)
    · rw [if_neg h2, if_neg (show ¬ (l.getD i 0 = 46 ∧ isD (l.getD (i + 1) 0) = true) from fun g => h2 g.2)]
      exact fin_txt l s i hs h hl
  · rw [if_neg (fun g => h1 (eq46.1 g)), if_neg (fun g => h1 g.1)]
    rw [colonnaderef16_number.j2]
    rw [if_neg (by decide)]
    exact fin_txt l s i hs h hl
theorem rnum_l0 (l : List UInt8) (hl : l.length ≤ 100000000) (s : Nat) : ∀ (d k i : Nat), l.length = i + d → s ≤ i → d + l.length + 3 < k → colonnaderef16_number.l0 k (B l) (i : Int) (s : Int) = colonnaderef16_number.j1 (l.length + 3) (B l) ((i + run isD (l.drop i) : Nat) : Int) (s : Int) := by
  intro d
  induction d with
  | zero =>
    intro k i h hs hk
    obtain ⟨k, rfl⟩ : ∃ q, k = q + 1 := ⟨k - 1, by omega⟩
    rw [List.drop_of_length_le (by omega)]
    unfold colonnaderef16_number.l0
    rw [if_neg (by rw [B_size]; omega)]
    show colonnaderef16_number.j1 k (B l) (i : Int) (s : Int) = colonnaderef16_number.j1 (l.length + 3) (B l) (i : Int) (s : Int)
    rw [rnum_j1 l hl s k i (by omega) hs (by omega), rnum_j1 l hl s (l.length + 3) i (by omega) hs (by omega)]
  | succ d ih =>
    intro k i h hs hk
    obtain ⟨k, rfl⟩ : ∃ q, k = q + 1 := ⟨k - 1, by omega⟩
    cases e : l.drop i with
    | nil => have := List.drop_eq_nil_iff.1 e; omega
    | cons c w =>
      obtain ⟨g1, g2, g3, g4⟩ := drop_cons e
      unfold colonnaderef16_number.l0
      rw [if_pos (by rw [B_size]; omega), if_pos (by omega), bt_B, g2, rdigit, Option.bind_some, run_cons]
      by_cases h1 : isD c = true
      · rw [if_pos h1, if_pos h1, w64_succ i (by omega), ih k (i + 1) (by omega) (by omega) (by omega), g3, Nat.add_assoc]
      · rw [if_neg h1, if_neg h1]
        show colonnaderef16_number.j1 k (B l) (i : Int) (s : Int) = colonnaderef16_number.j1 (l.length + 3) (B l) (i : Int) (s : Int)
        rw [rnum_j1 l hl s k i (by omega) hs (by omega), rnum_j1 l hl s (l.length + 3) i (by omega) hs (by omega)]
theorem getD_drop (l : List UInt8) (i n : Nat) : (l.drop i).getD n 0 = l.getD (i + n) 0 := by
  rw [List.getD_eq_getElem?_getD, List.getD_eq_getElem?_getD, List.getElem?_drop]
theorem rnum_B (k : Nat) (l : List UInt8) (hl : l.length ≤ 100000000) (i : Nat) (h : i ≤ l.length) (hk : l.length + l.length + 3 < k) :
    colonnaderef16_number.f k (B l) (i : Int) = some (2, B ((l.drop i).take (numb (l.drop i))), (i : Int), ((i + numb (l.drop i) : Nat) : Int), decide (numb (l.drop i) ≤ 40) && !isL ((l.drop i).getD (numb (l.drop i)) 0)) := by
  have hr := run_le isD (l.drop i)
  rw [List.length_drop] at hr
  unfold colonnaderef16_number.f
  rw [rnum_l0 l hl i (l.length - i) k i (by omega) (by omega) (by omega), rnum_j1 l hl i _ _ (by omega) (by omega) (by omega)]
  have hn : (if l.getD (i + run isD (l.drop i)) 0 = 46 ∧ isD (l.getD (i + run isD (l.drop i) + 1) 0) = true then i + run isD (l.drop i) + 1 + run isD (l.drop (i + run isD (l.drop i) + 1)) else i + run isD (l.drop i)) = i + numb (l.drop i) := by
    unfold numb
    simp only [getD_drop, List.drop_drop]
    split
    · rename_i g
      rw [if_pos (by rw [← Nat.add_assoc]; exact g)]
      rw [show i + run isD (l.drop i) + 1 = i + (run isD (l.drop i) + 1) by omega]; omega
    · rename_i g
      rw [if_neg (by rw [← Nat.add_assoc]; exact g)]
  rw [hn]
  unfold fin
  rw [getD_drop, List.take_drop, show i + numb (l.drop i) - i = numb (l.drop i) by omega]
end Go.Proofs.Ytmpamcfeijnafaa.Pure
