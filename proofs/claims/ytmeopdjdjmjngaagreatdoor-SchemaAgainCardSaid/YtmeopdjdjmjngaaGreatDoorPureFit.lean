/- A value as one of an alike type: value.Cast and the reference's say the same; a row that is fitted: schema.Fit and the reference's. -/
import Derived.Test.YtmeopdjdjmjngaaGreatDoorPureScale
import Derived.Test.YtmeopdjdjmjngaaGreatDoorStrB
import Derived.Test.YtmeopdjdjmjngaaGreatDoorG3
import Derived.Test.YtmeopdjdjmjngaaGreatDoorG4
import Derived.Test.YtmeopdjdjmjngaaGreatDoorG5
import Derived.Test.YtmeopdjdjmjngaaGreatDoorG6
import Derived.Test.YtmeopdjdjmjngaaGreatDoorG99
namespace Go.Proofs.YtmeopdjdjmjngaaGreatDoor.Pure
open Go.RowKit Go.Proofs.YtmeopdjdjmjngaaGreatDoor.G Go.Proofs.YtmeopdjdjmjngaaGreatDoorW.PrintWords Go.Proofs.YtmeopdjdjmjngaaGreatDoorW.PrintLast Go.Proofs.YtmeopdjdjmjngaaGreatDoor.Str
theorem chk_same (a b : Int) : ∃ c, value_CheckType.f a b = some c ∧ colonnaderef02_CheckType.f a b = some c := by
  unfold value_CheckType.f colonnaderef02_CheckType.f value_scaled.f
  by_cases h1 : a < 1
  · rw [if_pos h1, if_pos h1]; exact ⟨_, rfl, rfl⟩
  · rw [if_neg h1, if_neg h1]
    by_cases h2 : a > 5
    · rw [if_pos h2, if_pos h2]; exact ⟨_, rfl, rfl⟩
    · rw [if_neg h2, if_neg h2]
      by_cases h3 : b ≥ 0
      · rw [if_pos h3, if_neg (show ¬ b < 0 by omega), Option.bind_some]
        by_cases h4 : b ≤ 18
        · rw [if_pos (decide_eq_true h4), if_neg (show ¬ b > 18 by omega)]
          by_cases h5 : b = 0
          · rw [if_pos h5]
            refine ⟨0, rfl, ?_⟩
            by_cases h6 : a = 3
            · rw [if_pos h6]
            · rw [if_neg h6, if_pos h5]
          · rw [if_neg h5]
            by_cases h6 : a = 3
            · rw [if_pos h6, if_pos h6]; exact ⟨_, rfl, rfl⟩
            · rw [if_neg h6, if_neg h6, if_neg h5]; exact ⟨_, rfl, rfl⟩
        · rw [if_neg (by simpa using h4), if_pos (show b > 18 by omega)]; exact ⟨_, rfl, rfl⟩
      · rw [if_neg h3, if_pos (show b < 0 by omega)]; exact ⟨_, rfl, rfl⟩
theorem way_same (k : Nat) (a t : Int) (a1 a3 : Int) (a2 : Bool) (a4 : ByteArray) (t1 : Int) : ∃ b, colonnaderef02_way.f a t = some b ∧
    (if a < 1 then (value_Cast.j0 k a true a a1 a2 a3 a4 t t1) else (if a > 5 then (value_Cast.j0 k a true a a1 a2 a3 a4 t t1) else (if a = t then (value_Cast.j0 k a false a a1 a2 a3 a4 t t1) else (if a = 4 then (value_Cast.j0 k a false a a1 a2 a3 a4 t t1) else (if t = 4 then (value_Cast.j0 k a false a a1 a2 a3 a4 t t1) else ((value_family.f a).bind fun x => ((value_family.f t).bind fun y => (value_Cast.j0 k a (x != y) a a1 a2 a3 a4 t t1)))))))) = value_Cast.j0 k a (!b) a a1 a2 a3 a4 t t1 := by
  unfold colonnaderef02_way.f
  by_cases h1 : a < 1
  · rw [if_pos h1, if_neg (show ¬ a ≥ 1 by omega)]; exact ⟨_, rfl, rfl⟩
  · rw [if_neg h1, if_pos (show a ≥ 1 by omega)]
    by_cases h2 : a > 5
    · rw [if_pos h2, if_neg (show ¬ a ≤ 5 by omega)]; exact ⟨_, rfl, rfl⟩
    · rw [if_neg h2, if_pos (show a ≤ 5 by omega)]
      by_cases h3 : a = t
      · rw [if_pos h3, if_pos h3]; exact ⟨_, rfl, rfl⟩
      · rw [if_neg h3, if_neg h3]
        by_cases h4 : a = 4
        · by_cases h5 : t = 4
          · simp only [if_pos h4, if_pos h5]; exact ⟨_, rfl, rfl⟩
          · simp only [if_pos h4, if_neg h5]; exact ⟨_, rfl, rfl⟩
        · by_cases h5 : t = 4
          · simp only [if_neg h4, if_pos h5]; exact ⟨_, rfl, rfl⟩
          · simp only [if_neg h4, if_neg h5]
            obtain ⟨x, x1, x2⟩ : ∃ x, value_family.f a = some x ∧ colonnaderef02_family.f a = some x := by
              unfold value_family.f colonnaderef02_family.f
              split <;> exact ⟨_, rfl, rfl⟩
            obtain ⟨y, y1, y2⟩ : ∃ y, value_family.f t = some y ∧ colonnaderef02_family.f t = some y := by
              unfold value_family.f colonnaderef02_family.f
              split <;> exact ⟨_, rfl, rfl⟩
            rw [x1, x2, y1, y2, Option.bind_some, Option.bind_some, Option.bind_some, Option.bind_some]
            exact ⟨_, rfl, rfl⟩
theorem scale_ev {v : Int} (hv : In64 v) (f t : Int) : ∃ r, ∀ k, 60 ≤ k → num_Scale.f k v f t = some r ∧ colonnaderef01_Scale.f k v f t = some r := by
  obtain ⟨r, e1, e2⟩ := Scale_same 60 (Nat.le_refl _) hv f t
  exact ⟨r, fun k hk => ⟨at_rounds (num_Scale.mono v f t) hk e1, at_rounds (colonnaderef01_Scale.mono v f t) hk e2⟩⟩
theorem places_is (a0 a1 a3 : Int) (a2 : Bool) (a4 : ByteArray) : ∃ p, value_places.f a0 a1 a2 a3 a4 = some p ∧ colonnaderef02_scale.f a0 a1 a2 a3 a4 = some p := by
  unfold value_places.f colonnaderef02_scale.f
  split <;> exact ⟨_, rfl, rfl⟩
def fam (a : Int) : Int := if a = 3 then 2 else a
theorem fam_is (a : Int) : value_family.f a = some (fam a) ∧ colonnaderef02_family.f a = some (fam a) := by
  unfold value_family.f colonnaderef02_family.f fam
  constructor <;> split <;> rfl
/-- alike kinds -/
def alikeB (a t : Int) : Bool := decide (1 ≤ a) && (decide (a ≤ 5) && (fam a == fam t))
theorem Alike_is (a a1 t t1 : Int) : value_Alike.f a a1 t t1 = some (alikeB a t) ∧ colonnaderef02_Alike.f a a1 t t1 = some (alikeB a t) := by
  unfold value_Alike.f colonnaderef02_Alike.f alikeB
  rw [(fam_is a).1, (fam_is a).2, (fam_is t).1, (fam_is t).2]
  simp only [Option.bind_some]
  by_cases h1 : 1 ≤ a
  · by_cases h2 : a ≤ 5
    · by_cases h3 : fam a = fam t
      · rw [if_pos (show a ≥ 1 from h1), if_pos h2, if_pos h3, if_pos (show a ≥ 1 from h1)]; simp [h1, h2, h3]
      · rw [if_pos (show a ≥ 1 from h1), if_pos h2, if_neg h3]; simp [h1, h2, h3]
    · rw [if_pos (show a ≥ 1 from h1), if_neg h2]
      by_cases h3 : fam a = fam t
      · rw [if_pos h3, if_pos (show a ≥ 1 from h1)]; simp [h1, h2, h3]
      · rw [if_neg h3]; simp [h1, h2, h3]
  · rw [if_neg (show ¬ a ≥ 1 from h1)]
    by_cases h3 : fam a = fam t
    · rw [if_pos h3, if_neg (show ¬ a ≥ 1 from h1)]; simp [h1]
    · rw [if_neg h3]; simp [h1]
theorem alike_iff {a t : Int} (h : alikeB a t = true) : 1 ≤ a ∧ a ≤ 5 ∧ fam a = fam t := by
  unfold alikeB at h
  simp only [Bool.and_eq_true, decide_eq_true_eq, beq_iff_eq] at h
  exact h
theorem Cast_alike (k : Nat) (hk : 70 ≤ k) (a0 a1 a3 t0 t1 : Int) (a4 : ByteArray) (h3 : In64 a3) (hal : alikeB a0 t0 = true) :
    ∃ r, value_Cast.f (k + 4) a0 a1 false a3 a4 t0 t1 = some r ∧ colonnaderef02_Cast.f (k + 4) a0 a1 false a3 a4 t0 t1 = some r := by
  obtain ⟨l1, l2, l3⟩ := alike_iff hal
  unfold value_Cast.f colonnaderef02_Cast.f
  obtain ⟨c, c1, c2⟩ := chk_same t0 t1
  rw [c1, c2, Option.bind_some, Option.bind_some]
  by_cases hc : c = 0
  · rw [if_pos hc, if_pos hc]
    obtain ⟨b, b1, b2⟩ := way_same (k + 4) a0 t0 a1 a3 false a4 t1
    rw [b1, b2, Option.bind_some, value_Cast.j0]
    cases b with
    | false => exact ⟨_, rfl, rfl⟩
    | true =>
      simp only [Bool.not_true, Bool.false_eq_true, if_false, if_true]
      by_cases g4 : t0 = 4
      · have e4 : a0 = 4 := by unfold fam at l3; rw [g4] at l3; split at l3 <;> omega
        rw [if_pos g4, if_pos g4, if_pos e4]
        unfold value_texted.f value_OfText.f value_of.f colonnaderef02_OfText.f
        rw [if_pos e4]
        by_cases z : (a4.size : Int) > 256
        · rw [if_pos z, if_pos z]; exact ⟨_, rfl, rfl⟩
        · rw [if_neg z, if_neg z]; exact ⟨_, rfl, rfl⟩
      · have e4 : ¬ a0 = 4 := by intro z; unfold fam at l3; rw [z] at l3; split at l3 <;> first | omega | (split at l3 <;> omega)
        rw [if_neg g4, if_neg g4, if_neg e4, if_neg e4]
        obtain ⟨p, p1, p2⟩ := places_is a0 a1 a3 false a4
        obtain ⟨r, hr⟩ := scale_ev h3 p t1
        have v1 := (hr (k + 1) (by omega)).1
        have v2 := (hr (k + 2) (by omega)).2
        have hj2 : value_Cast.j2 (k + 2) a0 a1 false a3 a4 t0 t1 = if r.2 = 0 then some (t0, t1, false, r.1, (⟨#[]⟩ : ByteArray), 0) else some (0, 0, false, 0, (⟨#[]⟩ : ByteArray), r.2) := by
          rw [value_Cast.j2, p1, Option.bind_some, v1, Option.bind_some]
        have hr1 : colonnaderef02_Cast.j1 (k + 3) false a0 a1 false a3 a4 t0 t1 t0 t1 false a3 (⟨#[]⟩ : ByteArray) = if r.2 = 0 then some (t0, t1, false, r.1, (⟨#[]⟩ : ByteArray), 0) else some (0, 0, false, 0, (⟨#[]⟩ : ByteArray), r.2) := by
          rw [colonnaderef02_Cast.j1, if_neg (by decide), p2, Option.bind_some, v2, Option.bind_some]
        have hfin : ∃ q, (if r.2 = 0 then some (t0, t1, false, r.1, (⟨#[]⟩ : ByteArray), (0 : Int)) else some (0, 0, false, 0, (⟨#[]⟩ : ByteArray), r.2)) = some q := by
          by_cases z : r.2 = 0
          · rw [if_pos z]; exact ⟨_, rfl⟩
          · rw [if_neg z]; exact ⟨_, rfl⟩
        by_cases k3 : a0 = 3
        · rw [if_pos k3, if_pos k3, value_Cast.j1, if_neg (by decide), if_pos k3, colonnaderef02_Cast.j0, if_pos rfl, if_pos k3]
          unfold value_scaled.f
          by_cases s0 : a1 < 0
          · rw [if_neg (show ¬ a1 ≥ 0 by omega), Option.bind_some, if_neg (by decide), if_pos s0, colonnaderef02_Cast.j1, if_pos rfl]
            exact ⟨_, rfl, rfl⟩
          · rw [if_pos (show a1 ≥ 0 by omega), Option.bind_some, if_neg s0]
            by_cases s1 : a1 ≤ 18
            · rw [if_pos (decide_eq_true s1), decide_eq_false (show ¬ a1 > 18 by omega), hj2, hr1]
              obtain ⟨q, hq⟩ := hfin
              exact ⟨q, hq, hq⟩
            · rw [if_neg (by simpa using s1), decide_eq_true (show a1 > 18 by omega), colonnaderef02_Cast.j1, if_pos rfl]
              exact ⟨_, rfl, rfl⟩
        · rw [if_neg k3, if_neg k3, value_Cast.j1, colonnaderef02_Cast.j0]
          by_cases g3 : t0 = 3
          · rw [show (t0 != 3) = false from by simp [g3], show (t0 == 3) = true from by simp [g3], if_neg (by decide), if_neg k3, if_pos rfl, if_neg k3, hj2, hr1]
            obtain ⟨q, hq⟩ := hfin
            exact ⟨q, hq, hq⟩
          · rw [show (t0 != 3) = true from by simpa using g3, show (t0 == 3) = false from by simpa using g3, if_pos rfl, if_neg (by decide)]
            exact ⟨_, rfl, rfl⟩
  · rw [if_neg hc, if_neg hc]
    exact ⟨_, rfl, rfl⟩
theorem Cast_ev (a0 a1 a3 t0 t1 : Int) (a4 : ByteArray) (h3 : In64 a3) (hal : alikeB a0 t0 = true) :
    ∃ r, ∀ k, 74 ≤ k → value_Cast.f k a0 a1 false a3 a4 t0 t1 = some r ∧ colonnaderef02_Cast.f k a0 a1 false a3 a4 t0 t1 = some r := by
  obtain ⟨r, e1, e2⟩ := Cast_alike 70 (Nat.le_refl _) a0 a1 a3 t0 t1 a4 h3 hal
  exact ⟨r, fun k hk => ⟨at_rounds (value_Cast.mono _ _ _ _ _ _ _) hk e1, at_rounds (colonnaderef02_Cast.mono _ _ _ _ _ _ _) hk e2⟩⟩
abbrev Val := S41
abbrev Col := S36
theorem rdV (l : List Val) (i : Nat) (h : i < l.length) : rd_T41 l (i : Int) = l[i] := by
  unfold rd_T41
  rw [Int.toNat_natCast, List.getD_eq_getElem?_getD, List.getElem?_eq_getElem h]
  rfl
theorem rdC (l : List Col) (i : Nat) (h : i < l.length) : rd_T36 l (i : Int) = l[i] := by
  unfold rd_T36
  rw [Int.toNat_natCast, List.getD_eq_getElem?_getD, List.getElem?_eq_getElem h]
  rfl
theorem w64v (a : Nat) (h : a ≤ 1000000000000000000) : wrap64 ((a : Int) + 1) = ((a + 1 : Nat) : Int) := by unfold wrap64; omega
theorem same_loop (l : List Val) (hm : l.length ≤ 1000000000000000000) : ∀ (d k i : Nat), i + d = l.length → d < k → colonnaderef02_Same.l0 k l l (i : Int) = some true := by
  intro d
  induction d with
  | zero =>
    intro k i hi hk
    obtain ⟨k, rfl⟩ : ∃ m, k = m + 1 := ⟨k - 1, by omega⟩
    rw [colonnaderef02_Same.l0, if_neg (by omega)]
  | succ d ih =>
    intro k i hi hk
    obtain ⟨k, rfl⟩ : ∃ m, k = m + 1 := ⟨k - 1, by omega⟩
    rw [colonnaderef02_Same.l0, if_pos (by omega), if_pos (by omega), if_pos (by omega), if_neg (by simp), w64v i (by omega)]
    exact ih k (i + 1) (by omega) (by omega)
theorem Same_self (l : List Val) (hm : l.length ≤ 1000000000000000000) (k : Nat) (hk : l.length < k) : colonnaderef02_Same.f k l l = some true := by
  unfold colonnaderef02_Same.f
  rw [if_pos rfl]
  exact same_loop l hm l.length k 0 (by omega) hk
end Go.Proofs.YtmeopdjdjmjngaaGreatDoor.Pure
