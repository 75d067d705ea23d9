/- Powers of ten, and decimals with another number of digits behind the point: num and the reference compute the same. -/
import Derived.Test.YtmeopdjdjmjngaaGreatDoorPureMul
import Derived.Test.YtmeopdjdjmjngaaGreatDoorG3
import Derived.Test.YtmeopdjdjmjngaaGreatDoorG6
import Derived.Test.YtmeopdjdjmjngaaGreatDoorG99
namespace Go.Proofs.YtmeopdjdjmjngaaGreatDoor.Pure
open Go.RowKit Go.Proofs.YtmeopdjdjmjngaaGreatDoor.G Go.Proofs.YtmeopdjdjmjngaaGreatDoorW.PrintWords Go.Proofs.YtmeopdjdjmjngaaGreatDoorW.PrintLast Go.Proofs.YtmeopdjdjmjngaaGreatDoor.Wide

theorem scale_is (n : Int) : num_scale.f n = some (decide (0 ≤ n ∧ n ≤ 18)) := by
  unfold num_scale.f
  by_cases h : n ≥ 0
  · rw [if_pos h]; congr 1; simp [show 0 ≤ n from h]
  · rw [if_neg h]; congr 1; symm; exact decide_eq_false (by omega)

/-- the power of ten -/
def p10 (n : Int) : Int := 10 ^ n.toNat
theorem p10_0 : p10 0 = 1 := rfl
theorem p10_succ {n : Int} (h : 0 ≤ n) : p10 (n + 1) = p10 n * 10 := by
  unfold p10
  rw [show (n + 1).toNat = n.toNat + 1 from by omega, Int.pow_succ]
theorem p10_cases {n : Int} (h : 0 ≤ n) (h2 : n ≤ 18) : n = 0 ∨ n = 1 ∨ n = 2 ∨ n = 3 ∨ n = 4 ∨ n = 5 ∨ n = 6 ∨ n = 7 ∨ n = 8 ∨ n = 9 ∨ n = 10 ∨ n = 11 ∨ n = 12 ∨ n = 13 ∨ n = 14 ∨ n = 15 ∨ n = 16 ∨ n = 17 ∨ n = 18 := by omega
theorem p10_bd {n : Int} (h : 0 ≤ n) (h2 : n ≤ 18) : 1 ≤ p10 n ∧ p10 n ≤ 1000000000000000000 := by
  rcases p10_cases h h2 with rfl | rfl | rfl | rfl | rfl | rfl | rfl | rfl | rfl | rfl | rfl | rfl | rfl | rfl | rfl | rfl | rfl | rfl | rfl <;> decide

theorem pow_loop (n : Int) (hn : n ≤ 18) : ∀ (d k : Nat) (i : Int), 0 ≤ i → i + d = n → d < k → num_Pow10.l0 k (p10 i) n i = some (p10 n, 0) ∧ colonnaderef01_Pow10.l0 k n (p10 i) i = some (p10 n, 0) := by
  intro d
  induction d with
  | zero =>
    intro k i h0 hi hk
    obtain ⟨k, rfl⟩ : ∃ j, k = j + 1 := ⟨k - 1, by omega⟩
    obtain rfl : i = n := by omega
    simp only [num_Pow10.l0, colonnaderef01_Pow10.l0]
    simp
  | succ d ih =>
    intro k i h0 hi hk
    obtain ⟨k, rfl⟩ : ∃ j, k = j + 1 := ⟨k - 1, by omega⟩
    have hb := p10_bd (n := i + 1) (by omega) (by omega)
    have hs := p10_succ h0
    obtain ⟨a, b⟩ := ih k (i + 1) (by omega) (by omega) (by omega)
    simp only [num_Pow10.l0, colonnaderef01_Pow10.l0]
    have hlt : i < n := by omega
    rw [if_pos hlt, if_pos hlt]
    have w1 : wrap64 (p10 i * 10) = p10 (i + 1) := by rw [w64_mod]; omega
    have w2 : wrap64 (i + 1) = i + 1 := by rw [w64_mod]; omega
    rw [w1, w2]
    exact ⟨a, b⟩
theorem Pow10_is (k : Nat) (hk : 30 ≤ k) (n : Int) (h0 : 0 ≤ n) (h1 : n ≤ 18) : num_Pow10.f k n = some (p10 n, 0) ∧ colonnaderef01_Pow10.f k n = some (p10 n, 0) := by
  obtain ⟨k, rfl⟩ : ∃ j, k = j + 1 := ⟨k - 1, by omega⟩
  unfold num_Pow10.f colonnaderef01_Pow10.f
  rw [scale_is, decide_eq_true ⟨h0, h1⟩]
  simp only [Option.bind_some, if_true, colonnaderef01_Pow10.j0]
  have a := (pow_loop n h1 n.toNat (k + 1) 0 (by omega) (by omega) (by omega)).1
  have b := (pow_loop n h1 n.toNat k 0 (by omega) (by omega) (by omega)).2
  rw [p10_0] at a b
  refine ⟨a, ?_⟩
  rw [if_neg (by omega), decide_eq_false (by omega), if_neg (by simp)]
  exact b
theorem Pow10_no (k : Nat) (hk : 30 ≤ k) (n : Int) (h : ¬ (0 ≤ n ∧ n ≤ 18)) : num_Pow10.f k n = some (0, 1) ∧ colonnaderef01_Pow10.f k n = some (0, 1) := by
  obtain ⟨k, rfl⟩ : ∃ j, k = j + 1 := ⟨k - 1, by omega⟩
  unfold num_Pow10.f colonnaderef01_Pow10.f
  rw [scale_is, decide_eq_false h]
  simp only [Option.bind_some, colonnaderef01_Pow10.j0, if_true]
  refine ⟨by simp, ?_⟩
  by_cases c : n < 0
  · rw [if_pos c]
  · rw [if_neg c, decide_eq_true (by omega), if_pos rfl]

theorem Fits_is (v : Int) : num_Fits.f v = some (decide (-999999999999999999 ≤ v ∧ v ≤ 999999999999999999)) ∧ colonnaderef01_Fits.f v = some (decide (-999999999999999999 ≤ v ∧ v ≤ 999999999999999999)) := by
  unfold num_Fits.f colonnaderef01_Fits.f
  by_cases c : -999999999999999999 ≤ v
  · rw [if_pos c]; simp [c]
  · rw [if_neg c]; simp [c]

theorem Scale_same (k : Nat) (hk : 60 ≤ k) {v : Int} (hv : In64 v) (f t : Int) : ∃ r, num_Scale.f k v f t = some r ∧ colonnaderef01_Scale.f k v f t = some r := by
  obtain ⟨k, rfl⟩ : ∃ j, k = j + 1 := ⟨k - 1, by omega⟩
  by_cases hs : (0 ≤ f ∧ f ≤ 18) ∧ (0 ≤ t ∧ t ≤ 18)
  · have e1 : num_Scale.f (k + 1) v f t = num_Scale.j0 (k + 1) v f t false := by
      unfold num_Scale.f
      rw [scale_is, scale_is, decide_eq_true hs.1, decide_eq_true hs.2]; rfl
    have e2 : colonnaderef01_Scale.f (k + 1) v f t = colonnaderef01_Scale.j0 (k + 1) v f t false := by
      unfold colonnaderef01_Scale.f
      rw [if_neg (by omega), if_neg (by omega), if_neg (by omega), decide_eq_false (by omega)]
    rw [e1, e2]
    clear e1 e2
    obtain ⟨⟨f0, f1⟩, ⟨t0, t1⟩⟩ := hs
    simp only [num_Scale.j0, colonnaderef01_Scale.j0, (Fits_is v).1, (Fits_is v).2, Option.bind_some, Bool.false_eq_true, if_false]
    by_cases cv : -999999999999999999 ≤ v ∧ v ≤ 999999999999999999
    · rw [decide_eq_true cv]
      simp only [if_true]
      by_cases cd : t ≥ f
      · rw [if_pos cd, if_pos cd]
        have w : wrap64 (t - f) = t - f := by rw [w64_mod]; omega
        obtain ⟨p1, p2⟩ := Pow10_is k (by omega) (t - f) (by omega) (by omega)
        have pb := p10_bd (n := t - f) (by omega) (by omega)
        rw [w, p1, p2]
        simp only [Option.bind_some]
        obtain ⟨r, m1, m2, _⟩ := Mul_is (a := v) (b := p10 (t - f)) hv ⟨by omega, by omega⟩ k (by omega)
        rw [m1, m2]
        simp only [Option.bind_some, (Fits_is _).1, (Fits_is _).2]
        exact ⟨_, (by
          by_cases c1 : r.2 = 0
          · rw [if_pos c1]
            by_cases c2 : -999999999999999999 ≤ r.1 ∧ r.1 ≤ 999999999999999999
            · rw [decide_eq_true c2]; exact (if_pos rfl).trans (congrArg some (show (r.1, (0 : Int)) = if r.2 = 0 ∧ (-999999999999999999 ≤ r.1 ∧ r.1 ≤ 999999999999999999) then (r.1, 0) else (0, 10) from (if_pos ⟨c1, c2⟩).symm))
            · rw [decide_eq_false c2]; exact (if_neg (by simp)).trans (congrArg some (if_neg (fun h => c2 h.2)).symm)
          · rw [if_neg c1]; exact congrArg some (if_neg (fun h => c1 h.1)).symm), (by
          by_cases c1 : r.2 = 0
          · rw [if_pos c1]
            by_cases c2 : -999999999999999999 ≤ r.1 ∧ r.1 ≤ 999999999999999999
            · rw [decide_eq_true c2]; exact (if_pos rfl).trans (congrArg some (if_pos ⟨c1, c2⟩).symm)
            · rw [decide_eq_false c2]; exact (if_neg (by simp)).trans (congrArg some (if_neg (fun h => c2 h.2)).symm)
          · rw [if_neg c1]; exact congrArg some (if_neg (fun h => c1 h.1)).symm)⟩
      · rw [if_neg cd, if_neg cd]
        have w : wrap64 (f - t) = f - t := by rw [w64_mod]; omega
        obtain ⟨p1, p2⟩ := Pow10_is k (by omega) (f - t) (by omega) (by omega)
        have pb := p10_bd (n := f - t) (by omega) (by omega)
        obtain ⟨m, em, mu, mb, ma⟩ := amount_is v hv
        rw [w, p1, p2, em]
        simp only [Option.bind_some]
        obtain ⟨p, hp⟩ : ∃ z, z = p10 (f - t) := ⟨_, rfl⟩
        rw [← hp] at pb ⊢
        clear hp p1 p2
        have up : IntKind.u64.wrap p = p := by rw [IntKind.wrap_u64]; omega
        have hp0 : ¬ p = 0 := by omega
        rw [up, if_neg hp0, if_neg hp0]
        have m0 : 0 ≤ m := mu.1
        have td : m.tdiv p = m / p := Int.tdiv_eq_ediv_of_nonneg m0
        have tm : m.tmod p = m % p := Int.tmod_eq_emod_of_nonneg m0
        have q0 : 0 ≤ m / p := Int.ediv_nonneg m0 (by omega)
        have q1 : m / p ≤ m := Int.ediv_le_self p m0
        have r0 : 0 ≤ m % p := Int.emod_nonneg m hp0
        have r1 : m % p < p := Int.emod_lt_of_pos m (by omega)
        have mm : m ≤ 999999999999999999 := by rw [ma]; split <;> omega
        rw [td, tm]
        obtain ⟨Q, hQ⟩ : ∃ z, z = m / p := ⟨_, rfl⟩
        obtain ⟨R, hR⟩ : ∃ z, z = m % p := ⟨_, rfl⟩
        rw [← hQ, ← hR]
        rw [← hQ] at q0 q1
        rw [← hR] at r0 r1
        have u1 : IntKind.u64.wrap (2 * R) = 2 * R := by rw [IntKind.wrap_u64]; omega
        have u2 : IntKind.u64.wrap Q = Q := by rw [IntKind.wrap_u64]; omega
        have u3 : IntKind.u64.wrap (Q + 1) = Q + 1 := by rw [IntKind.wrap_u64]; omega
        rw [u1, u2, u3]
        have s1 := signed_neg k (by omega) (Q + 1) ⟨by omega, by omega⟩
        have s2 := signed_pos k (by omega) (Q + 1) ⟨by omega, by omega⟩
        have s3 := signed_neg k (by omega) Q ⟨by omega, by omega⟩
        have s4 := signed_pos k (by omega) Q ⟨by omega, by omega⟩
        by_cases c1 : v < 0
        · rw [if_pos c1] at ma
          have e : v = -m := by omega
          have tv : v.tdiv p = -Q := by rw [e, Int.neg_tdiv, td, hQ]
          have tw : v.tmod p = -R := by rw [e, Int.neg_tmod, tm, hR]
          rw [tv, tw, decide_eq_true c1, s1.1 (by omega), s3.1 (by omega)]
          simp only [w64_mod, Option.bind_some]
          rw [if_neg (by omega)]
          by_cases c2 : 2 * R ≥ p
          · rw [if_pos (by omega), if_pos c2]; refine ⟨(-(Q + 1), 0), ?_, rfl⟩; congr 2; omega
          · rw [if_neg (by omega), if_neg c2]; refine ⟨(-Q, 0), ?_, rfl⟩; congr 2; omega
        · rw [if_neg c1] at ma
          rw [← ma, td, tm, ← hQ, ← hR, decide_eq_false (show ¬ m < 0 by omega), s2.1 (by omega), s4.1 (by omega)]
          simp only [w64_mod, Option.bind_some]
          by_cases c2 : 2 * R ≥ p
          · rw [if_pos (by omega), if_pos c2]; refine ⟨(Q + 1, 0), ?_, rfl⟩; congr 2; omega
          · rw [if_neg (by omega), if_neg (by omega), if_neg c2]; refine ⟨(Q, 0), ?_, rfl⟩; congr 2; omega
    · rw [decide_eq_false cv]
      simp only [Bool.false_eq_true, if_false]
      exact ⟨_, rfl, rfl⟩
  · refine ⟨(0, 1), ?_, ?_⟩
    · unfold num_Scale.f
      rw [scale_is, scale_is]
      by_cases c : 0 ≤ f ∧ f ≤ 18
      · rw [decide_eq_true c, decide_eq_false (fun h => hs ⟨c, h⟩)]; simp [num_Scale.j0]
      · rw [decide_eq_false c]; simp [num_Scale.j0]
    · unfold colonnaderef01_Scale.f
      simp only [colonnaderef01_Scale.j0, if_true]
      by_cases c1 : f < 0
      · rw [if_pos c1]
      · by_cases c2 : f > 18
        · rw [if_neg c1, if_pos c2]
        · by_cases c3 : t < 0
          · rw [if_neg c1, if_neg c2, if_pos c3]
          · rw [if_neg c1, if_neg c2, if_neg c3, decide_eq_true (by omega), if_pos rfl]

end Go.Proofs.YtmeopdjdjmjngaaGreatDoor.Pure
