/- What the printed reference for the tokens computes: texts, signs, the token ahead. -/
import Derived.Test.YtmpamcfeijnafaaPureLexC
import Derived.Test.YtmpamcfeijnafaaR12
import Derived.Test.YtmpamcfeijnafaaR13
import Derived.Test.YtmpamcfeijnafaaR14
namespace Go.Proofs.Ytmpamcfeijnafaa.Pure
open Go.RowKit Go.Proofs.Ytmpamcfeijnafaa.R Go.Proofs.YtmpamcfeijnafaaW.PrintWords Go.Proofs.YtmpamcfeijnafaaW.PrintLast Go.Proofs.Ytmpamcfeijnafaa.Str Go.Proofs.Ytmpamcfeijnafaa.Lex

theorem of_toNat (c : UInt8) : UInt8.ofNat ((c.toNat : Int)).toNat = c := by rw [Int.toNat_natCast]; exact UInt8.ofNat_toNat
/-- what a text's end says -/
def quoV (x8 : List Int) (p r : Int) (i : Nat) : Option (List UInt8 × Nat) → Option (Int × ByteArray × Int × Int × Bool) → Prop
  | none, x => ∃ e q s y, x = some (e, q, s, y, false)
  | some (t, n), x => x = some (p, B (x8.map (fun n => UInt8.ofNat n.toNat) ++ t), r, ((i + n : Nat) : Int), decide (x8.length + t.length ≤ 256))
theorem dec256 (n : Nat) : decide ((n : Int) ≤ 256) = decide (n ≤ 256) := decide_eq_decide.mpr (by omega)
theorem rquo_loop (l : List UInt8) (hl : l.length ≤ 100000000) (p r : Int) (q : ByteArray) : ∀ (d k i : Nat) (x8 : List Int), l.length ≤ i + d → x8.length ≤ i → i ≤ l.length → d < k →
    quoV x8 p r i (quo (l.drop i)) (colonnaderef16_quoted.l0 k (B l) (i : Int) x8 p q r) := by
  intro d
  induction d using Nat.strongRecOn with
  | _ d ih =>
  intro k i x8 h hx hi hk
  obtain ⟨k, rfl⟩ : ∃ q, k = q + 1 := ⟨k - 1, by omega⟩
  unfold colonnaderef16_quoted.l0
  cases e : l.drop i with
  | nil =>
    have := List.drop_eq_nil_iff.1 e
    rw [if_neg (by rw [B_size]; omega)]
    exact ⟨_, _, _, _, rfl⟩
  | cons c w =>
    obtain ⟨g1, g2, g3, g4⟩ := drop_cons e
    have h8 : x8.length < 140737488355328 := by omega
    rw [if_pos (by rw [B_size]; omega), if_pos (by omega), bt_B, g2, w64_succ i (by omega), at_B, Option.bind_some]
    have step : ∀ (j : Nat) (v : UInt8) (m : Nat) (y : Option (List UInt8 × Nat)), i + m = j → 1 ≤ m → j ≤ l.length → quo (l.drop j) = y → ∀ z, z = (y.map fun x => (v :: x.1, x.2 + m)) → quoV x8 p r i z (colonnaderef16_quoted.l0 k (B l) (j : Int) (x8 ++ [((v.toNat : Nat) : Int)]) p q r) := by
      intro j v m y hj hm hjl hy z hz
      have := ih (l.length - j) (by omega) k j (x8 ++ [((v.toNat : Nat) : Int)]) (by omega) (by rw [List.length_append, List.length_singleton]; omega) hjl (by omega)
      rw [hy] at this
      subst hz
      cases y with
      | none => exact this
      | some x =>
        obtain ⟨t, n⟩ := x
        simp only [quoV, Option.map_some, List.map_append, List.map_cons, List.map_nil, of_toNat, List.append_assoc, List.singleton_append, List.length_append, List.length_singleton, List.length_cons] at this ⊢
        rw [this, show j + n = i + (n + m) by omega]
        congr 5
        exact decide_eq_decide.mpr (by show x8.length + (0 + 1) + t.length ≤ 256 ↔ x8.length + (t.length + 1) ≤ 256; omega)
    by_cases hc : c = 39
    · rw [if_pos (eq39.2 hc)]
      cases w with
      | nil =>
        rw [List.length_nil] at g4
        rw [if_neg (by rw [List.getD_eq_getElem?_getD, List.getElem?_eq_none (by omega)]; decide), B_nums, dec256]
        simp [quo, hc, quoV]
      | cons d' w =>
        obtain ⟨f1, f2, f3, f4⟩ := drop_cons g3
        rw [f2]
        by_cases hq : d' = 39
        · rw [if_pos (eq39.2 hq), if_pos (by omega), if_pos (by rw [B_size]; omega), if_pos h8, w64_succ (i + 1) (by omega), bt_B, f2]
          refine step (i + 1 + 1) d' 2 (quo w) (by omega) (by omega) (by omega) (by rw [f3]) _ ?_
          simp only [quo, hc, hq, if_true]
        · rw [if_neg (fun g => hq (eq39.1 g)), B_nums, dec256]
          simp [quo, hc, hq, quoV]
    · rw [if_neg (fun g => hc (eq39.1 g)), if_pos h8]
      cases w with
      | nil =>
        rw [List.length_nil] at g4
        refine step (i + 1) c 1 none (by omega) (by omega) (by omega) (by rw [g3]; rfl) _ ?_
        simp [quo, hc]
      | cons d' w =>
        refine step (i + 1) c 1 (quo (d' :: w)) (by omega) (by omega) (by omega) (by rw [g3]) _ ?_
        simp only [quo, if_neg hc]
theorem rquoted_B (k : Nat) (l : List UInt8) (hl : l.length ≤ 100000000) (i : Nat) (h : i < l.length) (hk : l.length < k) : quoV [] 3 (i : Int) (i + 1) (quo (l.drop (i + 1))) (colonnaderef16_quoted.f k (B l) (i : Int)) := by
  unfold colonnaderef16_quoted.f
  rw [w64_succ i (by omega)]
  exact rquo_loop l hl 3 (i : Int) _ (l.length - (i + 1)) k (i + 1) [] (by omega) (by simp) (by omega) (by omega)

theorem rsign_loop (l : List UInt8) (hl : l.length ≤ 100000000) (i : Nat) (hi : i < l.length) (c : UInt8) (hc : l.getD i 0 = c) (p r : Int) (q : ByteArray) : ∀ (d k j : Nat), j + d = 13 → d < k →
    colonnaderef16_sign.l0 k (B l) (i : Int) (B SGN) (j : Int) p q r = if (SGN.drop j).contains c then some (p, B [c], r, ((i + 1 : Nat) : Int), true) else some (p, q, r, (i : Int), false) := by
  intro d
  have hS : SGN.length = 13 := rfl
  induction d with
  | zero =>
    intro k j h hk
    obtain ⟨k, rfl⟩ : ∃ q, k = q + 1 := ⟨k - 1, by omega⟩
    obtain rfl : j = 13 := by omega
    unfold colonnaderef16_sign.l0
    rw [if_neg (by rw [B_size, hS]; omega)]
    rfl
  | succ d ih =>
    intro k j h hk
    obtain ⟨k, rfl⟩ : ∃ q, k = q + 1 := ⟨k - 1, by omega⟩
    have hj : j < SGN.length := by omega
    unfold colonnaderef16_sign.l0
    have e1 : SGN.drop j = SGN.getD j 0 :: SGN.drop (j + 1) := by
      rw [List.drop_eq_getElem_cons hj, List.getD_eq_getElem?_getD, List.getElem?_eq_getElem hj]; rfl
    have e2 : (SGN.take (j + 1)).drop j = [SGN.getD j 0] := (by decide : ∀ a : Fin 13, (SGN.take (a.val + 1)).drop a.val = [SGN.getD a.val 0]) ⟨j, by omega⟩
    rw [if_pos (by rw [B_size, hS]; omega), if_pos (by omega), if_pos (by omega), if_pos (by rw [B_size]; omega), bt_B, bt_B, hc, w64_succ j (by omega), e1, List.contains_cons]
    by_cases g : SGN.getD j 0 = c
    · rw [if_pos (by rw [g]), if_pos (by omega), if_pos (by rw [B_size, hS]; omega), Int.toNat_natCast, Int.toNat_natCast, B_extract, e2, g, w64_succ i (by omega), if_pos (by simp)]
    · rw [if_neg (fun g' => g (toNat_inj.1 g')), ih k (j + 1) (by omega) (by omega)]
      have : (c == SGN.getD j 0) = false := beq_eq_false_iff_ne.mpr (fun g' => g g'.symm)
      rw [this, Bool.false_or]
/-- what the reference says of the token ahead -/
def oneR (i : Nat) : Option (Int × List UInt8 × Nat) → Option (Int × ByteArray × Int × Int × Bool) → Prop
  | none, x => ∃ e q s y, x = some (e, q, s, y, false)
  | some (kd, t, n), x => x = some (kd, B t, (i : Int), ((i + n : Nat) : Int), true)
theorem rsign_j0 (k : Nat) (hk : 14 < k) (l : List UInt8) (hl : l.length ≤ 100000000) (i : Nat) (hi : i < l.length) (c : UInt8) (hc : l.getD i 0 = c) (p r : Int) (q : ByteArray) :
    colonnaderef16_sign.j0 k (B l) (i : Int) p q r = if isS c then some (p, B [c], r, ((i + 1 : Nat) : Int), true) else some (p, q, r, (i : Int), false) := by
  obtain ⟨k, rfl⟩ : ∃ q, k = q + 1 := ⟨k - 1, by omega⟩
  unfold colonnaderef16_sign.j0
  exact rsign_loop l hl i hi c hc p r q 13 k 0 (by omega) (by omega)
theorem rsign_B (k : Nat) (hk : 14 < k) (l : List UInt8) (hl : l.length ≤ 100000000) (i : Nat) (c : UInt8) (r : List UInt8) (e : l.drop i = c :: r) :
    oneR i (sg c r) (colonnaderef16_sign.f k (B l) (i : Int)) := by
  obtain ⟨g1, g2, g3, g4⟩ := drop_cons e
  have hj := rsign_j0 k hk l hl i g1 c g2 4 (i : Int) (⟨#[]⟩ : ByteArray)
  have hend : oneR i (if isS c then some (4, [c], 1) else none) (colonnaderef16_sign.j0 k (B l) (i : Int) 4 (⟨#[]⟩ : ByteArray) (i : Int)) := by
    rw [hj]
    by_cases h : isS c = true
    · rw [if_pos h, if_pos h]; rfl
    · rw [if_neg h, if_neg h]; exact ⟨_, _, _, _, rfl⟩
  have htk : (l.take (i + 2)).drop i = (c :: r).take 2 := by rw [← e, List.take_drop]
  unfold colonnaderef16_sign.f
  rw [w64_succ i (by omega), w64_two i (by omega)]
  cases r with
  | nil =>
    rw [List.length_nil] at g4
    rw [if_neg (by rw [B_size]; omega)]
    unfold sg
    rw [if_neg (fun h => h.1 rfl)]
    exact hend
  | cons d r =>
    obtain ⟨f1, f2, f3, f4⟩ := drop_cons g3
    rw [if_pos (by rw [B_size]; omega), if_pos (by omega), if_pos (by omega), if_pos (by rw [B_size]; omega), Int.toNat_natCast, Int.toNat_natCast, B_extract, B_toList, htk]
    have hsg : ∀ two, two = (c :: d :: r).take 2 → sg c (d :: r) = if isTwo two = true then some (4, two, 2) else if isS c then some (4, [c], 1) else none := by
      rintro _ rfl
      unfold sg
      by_cases h : isTwo ((c :: d :: r).take 2) = true
      · rw [if_pos h, if_pos ⟨by simp, h⟩]
      · rw [if_neg h, if_neg (fun g => h g.2)]
    rw [hsg _ rfl]
    generalize (c :: d :: r).take 2 = two
    have hr : oneR i (some (4, two, 2)) (some (4, B two, (i : Int), ((i + 2 : Nat) : Int), true)) := rfl
    by_cases ht : isTwo two = true
    · rw [if_pos ht]
      unfold isTwo at ht
      by_cases h1 : two = [60, 61]
      · rw [if_pos h1]; exact hr
      · rw [if_neg h1]
        by_cases h2 : two = [62, 61]
        · rw [if_pos h2]; exact hr
        · rw [if_neg h2]
          by_cases h3 : two = [60, 62]
          · rw [if_pos h3]; exact hr
          · rw [if_neg h3]
            by_cases h4 : two = [124, 124]
            · rw [if_pos h4]; exact hr
            · simp [h1, h2, h3, h4] at ht
    · rw [if_neg ht]
      have h1 : ¬ two = [60, 61] := by rintro rfl; exact ht (by decide)
      have h2 : ¬ two = [62, 61] := by rintro rfl; exact ht (by decide)
      have h3 : ¬ two = [60, 62] := by rintro rfl; exact ht (by decide)
      have h4 : ¬ two = [124, 124] := by rintro rfl; exact ht (by decide)
      rw [if_neg h1, if_neg h2, if_neg h3, if_neg h4]
      exact hend
theorem rone_B (k : Nat) (l : List UInt8) (hl : l.length ≤ 100000000) (i : Nat) (h : i < l.length) (hk : l.length + l.length + 14 < k) : oneR i (one (l.drop i)) (colonnaderef16_one.f k (B l) (i : Int)) := by
  cases e : l.drop i with
  | nil => have := List.drop_eq_nil_iff.1 e; omega
  | cons c r =>
    obtain ⟨g1, g2, g3, g4⟩ := drop_cons e
    have hw := rword_B k l hl i (by omega) (by omega)
    have hn := rnum_B k l hl i (by omega) (by omega)
    have hq := rquoted_B k l hl i h (by omega)
    have hs := rsign_B k (by omega) l hl i c r e
    rw [e] at hw hn
    rw [g3] at hq
    unfold colonnaderef16_one.f
    rw [if_pos (by omega), if_pos (by rw [B_size]; omega), bt_B, g2, rletter, rdigit, Option.bind_some, Option.bind_some]
    by_cases h1 : isL c = true
    · rw [if_pos h1, one_L h1, hw, Option.bind_some]
      by_cases g : run isW (c :: r) ≤ 32
      · rw [if_pos g, decide_eq_true g]; rfl
      · rw [if_neg g, decide_eq_false g]; exact ⟨_, _, _, _, rfl⟩
    · rw [if_neg h1]
      by_cases h2 : isD c = true
      · rw [if_pos h2, one_D h1 h2, hn, Option.bind_some]
        by_cases g : numb (c :: r) ≤ 40 ∧ isL ((c :: r).getD (numb (c :: r)) 0) = false
        · rw [if_pos g, decide_eq_true g.1, g.2]; rfl
        · rw [if_neg g]
          have hb : (decide (numb (c :: r) ≤ 40) && !isL ((c :: r).getD (numb (c :: r)) 0)) = false := by
            by_cases g1 : numb (c :: r) ≤ 40
            · cases hh : isL ((c :: r).getD (numb (c :: r)) 0) with
              | true => simp
              | false => exact absurd ⟨g1, hh⟩ g
            · simp [g1]
          rw [hb]
          exact ⟨_, _, _, _, rfl⟩
      · rw [if_neg h2]
        by_cases h3 : c = 39
        · rw [if_pos (eq39.2 h3), one_Q h1 h2 h3]
          cases hz : quo r with
          | none =>
            rw [hz] at hq
            obtain ⟨a, b, c', d, hq⟩ := hq
            rw [hq]
            exact ⟨_, _, _, _, rfl⟩
          | some x =>
            obtain ⟨t, n⟩ := x
            rw [hz] at hq
            simp only [quoV, List.map_nil, List.nil_append, List.length_nil, Nat.zero_add] at hq
            rw [hq, Option.bind_some]
            simp only
            by_cases g : t.length ≤ 256
            · rw [if_pos g, decide_eq_true g, Nat.add_assoc, Nat.add_comm 1]; rfl
            · rw [if_neg g, decide_eq_false g]; exact ⟨_, _, _, _, rfl⟩
        · rw [if_neg (fun g => h3 (eq39.1 g)), one_S h1 h2 h3]
          generalize sg c r = v at hs
          cases v with
          | none =>
            obtain ⟨a, b, c', d, hs⟩ := hs
            rw [hs]
            exact ⟨_, _, _, _, rfl⟩
          | some x =>
            obtain ⟨kd, t, n⟩ := x
            simp only [oneR] at hs ⊢
            rw [hs]
            rfl
end Go.Proofs.Ytmpamcfeijnafaa.Pure
