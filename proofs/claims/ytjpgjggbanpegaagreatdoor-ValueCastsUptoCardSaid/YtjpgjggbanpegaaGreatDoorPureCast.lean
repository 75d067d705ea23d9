/- A value as one of another type: value.Cast and the reference's say the same, for texts that are not too great. -/
import Derived.Test.YtjpgjggbanpegaaGreatDoorPureRead
import Derived.Test.YtjpgjggbanpegaaGreatDoorPureShow
import Derived.Test.YtjpgjggbanpegaaGreatDoorE10
import Derived.Test.YtjpgjggbanpegaaGreatDoorE11
import Derived.Test.YtjpgjggbanpegaaGreatDoorE3
import Derived.Test.YtjpgjggbanpegaaGreatDoorE4
import Derived.Test.YtjpgjggbanpegaaGreatDoorE5
import Derived.Test.YtjpgjggbanpegaaGreatDoorE6
import Derived.Test.YtjpgjggbanpegaaGreatDoorE7
import Derived.Test.YtjpgjggbanpegaaGreatDoorE8
namespace Go.Proofs.YtjpgjggbanpegaaGreatDoor.Pure
open Go.RowKit Go.Proofs.YtjpgjggbanpegaaGreatDoor.E Go.Proofs.YtjpgjggbanpegaaGreatDoorW.PrintWords Go.Proofs.YtjpgjggbanpegaaGreatDoorW.PrintLast Go.Proofs.YtjpgjggbanpegaaGreatDoor.Str Go.Proofs.YtjpgjggbanpegaaGreatDoor.Cal
theorem chk_same (a b : Int) : ∃ c, value_CheckType.f a b = some c ∧ colonnaderef02_CheckType.f a b = some c := by
  unfold value_CheckType.f colonnaderef02_CheckType.f value_scaled.f
  by_cases h1 : a < 1
  · rw [if_pos h1, if_pos h1]; exact ⟨_, rfl, rfl⟩
  · rw [if_neg h1, if_neg h1]
    by_cases h2 : a > 5
    · rw [if_pos h2, if_pos h2]; exact ⟨_, rfl, rfl⟩
    · rw [if_neg h2, if_neg h2]
      by_cases h3 : b ≥ 0
      · rw [if_pos h3, if_neg (show ¬ b < 0 by omega), Option.bind_some]
        by_cases h4 : b ≤ 18
        · rw [if_pos (decide_eq_true h4), if_neg (show ¬ b > 18 by omega)]
          by_cases h5 : b = 0
          · rw [if_pos h5]
            refine ⟨0, rfl, ?_⟩
            by_cases h6 : a = 3
            · rw [if_pos h6]
            · rw [if_neg h6, if_pos h5]
          · rw [if_neg h5]
            by_cases h6 : a = 3
            · rw [if_pos h6, if_pos h6]; exact ⟨_, rfl, rfl⟩
            · rw [if_neg h6, if_neg h6, if_neg h5]; exact ⟨_, rfl, rfl⟩
        · rw [if_neg (by simpa using h4), if_pos (show b > 18 by omega)]; exact ⟨_, rfl, rfl⟩
      · rw [if_neg h3, if_pos (show b < 0 by omega)]; exact ⟨_, rfl, rfl⟩
theorem texted_is (k : Nat) (hk : 80000000 ≤ k) (a0 a1 a3 : Int) (l : List UInt8) (h3 : In64 a3) (hl : l.length ≤ 67108864) :
    ∃ r, value_texted.f k a0 a1 false a3 (B l) = some r ∧
      (if a0 = 4 then (if ((B l).size : Int) > 256 then (some (0, 0, false, 0, (⟨#[]⟩ : ByteArray), 10)) else ((colonnaderef02_OfText.f (B l)).bind fun b => (some (b.1, b.2.1, b.2.2.1, b.2.2.2.1, b.2.2.2.2, 0)))) else ((colonnaderef02_Show.f k a0 a1 false a3 (B l)).bind fun t => (if (t.size : Int) > 256 then (some (0, 0, false, 0, (⟨#[]⟩ : ByteArray), 10)) else ((colonnaderef02_OfText.f t).bind fun b => (some (b.1, b.2.1, b.2.2.1, b.2.2.2.1, b.2.2.2.2, 0)))))) = some r := by
  unfold value_texted.f value_OfText.f value_of.f colonnaderef02_OfText.f
  by_cases c : a0 = 4
  · rw [if_pos c, if_pos c]
    split <;> exact ⟨_, rfl, rfl⟩
  · rw [if_neg c, if_neg c]
    obtain ⟨t, e1, e2⟩ := Show_same k hk a0 a1 a3 false (B l) h3 (by rw [B_size]; exact hl)
    rw [e1, e2]
    simp only [Option.bind_some]
    by_cases g : (t.size : Int) > 256
    · rw [if_pos g]; exact ⟨_, rfl, rfl⟩
    · rw [if_neg g]; exact ⟨_, rfl, rfl⟩
theorem way_same (k : Nat) (a t : Int) (a1 a3 : Int) (a2 : Bool) (a4 : ByteArray) (t1 : Int) : ∃ b, colonnaderef02_way.f a t = some b ∧
    (if a < 1 then (value_Cast.j0 k a true a a1 a2 a3 a4 t t1) else (if a > 5 then (value_Cast.j0 k a true a a1 a2 a3 a4 t t1) else (if a = t then (value_Cast.j0 k a false a a1 a2 a3 a4 t t1) else (if a = 4 then (value_Cast.j0 k a false a a1 a2 a3 a4 t t1) else (if t = 4 then (value_Cast.j0 k a false a a1 a2 a3 a4 t t1) else ((value_family.f a).bind fun x => ((value_family.f t).bind fun y => (value_Cast.j0 k a (x != y) a a1 a2 a3 a4 t t1)))))))) = value_Cast.j0 k a (!b) a a1 a2 a3 a4 t t1 := by
  unfold colonnaderef02_way.f
  by_cases h1 : a < 1
  · rw [if_pos h1, if_neg (show ¬ a ≥ 1 by omega)]; exact ⟨_, rfl, rfl⟩
  · rw [if_neg h1, if_pos (show a ≥ 1 by omega)]
    by_cases h2 : a > 5
    · rw [if_pos h2, if_neg (show ¬ a ≤ 5 by omega)]; exact ⟨_, rfl, rfl⟩
    · rw [if_neg h2, if_pos (show a ≤ 5 by omega)]
      by_cases h3 : a = t
      · rw [if_pos h3, if_pos h3]; exact ⟨_, rfl, rfl⟩
      · rw [if_neg h3, if_neg h3]
        by_cases h4 : a = 4
        · by_cases h5 : t = 4
          · simp only [if_pos h4, if_pos h5]; exact ⟨_, rfl, rfl⟩
          · simp only [if_pos h4, if_neg h5]; exact ⟨_, rfl, rfl⟩
        · by_cases h5 : t = 4
          · simp only [if_neg h4, if_pos h5]; exact ⟨_, rfl, rfl⟩
          · simp only [if_neg h4, if_neg h5]
            obtain ⟨x, x1, x2⟩ : ∃ x, value_family.f a = some x ∧ colonnaderef02_family.f a = some x := by
              unfold value_family.f colonnaderef02_family.f
              split <;> exact ⟨_, rfl, rfl⟩
            obtain ⟨y, y1, y2⟩ : ∃ y, value_family.f t = some y ∧ colonnaderef02_family.f t = some y := by
              unfold value_family.f colonnaderef02_family.f
              split <;> exact ⟨_, rfl, rfl⟩
            rw [x1, x2, y1, y2, Option.bind_some, Option.bind_some, Option.bind_some, Option.bind_some]
            exact ⟨_, rfl, rfl⟩
theorem scale_ev {v : Int} (hv : In64 v) (f t : Int) : ∃ r, ∀ k, 60 ≤ k → num_Scale.f k v f t = some r ∧ colonnaderef01_Scale.f k v f t = some r := by
  obtain ⟨r, e1, e2⟩ := Scale_same 60 (Nat.le_refl _) hv f t
  exact ⟨r, fun k hk => ⟨at_rounds (num_Scale.mono v f t) hk e1, at_rounds (colonnaderef01_Scale.mono v f t) hk e2⟩⟩
theorem places_is (a0 a1 a3 : Int) (a2 : Bool) (a4 : ByteArray) : ∃ p, value_places.f a0 a1 a2 a3 a4 = some p ∧ colonnaderef02_scale.f a0 a1 a2 a3 a4 = some p := by
  unfold value_places.f colonnaderef02_scale.f
  split <;> exact ⟨_, rfl, rfl⟩
theorem Cast_both (k : Nat) (hk : 1000000000 ≤ k) (a0 a1 a3 t0 t1 : Int) (a2 : Bool) (l : List UInt8) (h3 : In64 a3) (hl : l.length ≤ 67108864) :
    ∃ r, value_Cast.f (k + 4) a0 a1 a2 a3 (B l) t0 t1 = some r ∧ colonnaderef02_Cast.f (k + 4) a0 a1 a2 a3 (B l) t0 t1 = some r := by
  unfold value_Cast.f colonnaderef02_Cast.f
  obtain ⟨c, c1, c2⟩ := chk_same t0 t1
  rw [c1, c2, Option.bind_some, Option.bind_some]
  by_cases hc : c = 0
  · rw [if_pos hc, if_pos hc]
    obtain ⟨b, b1, b2⟩ := way_same (k + 4) a0 t0 a1 a3 a2 (B l) t1
    rw [b1, b2, Option.bind_some, value_Cast.j0]
    cases b with
    | false => exact ⟨_, rfl, rfl⟩
    | true =>
      simp only [Bool.not_true, Bool.false_eq_true, if_false, if_true]
      cases a2 with
      | true => exact ⟨_, rfl, rfl⟩
      | false =>
        simp only [Bool.false_eq_true, if_false]
        by_cases g4 : t0 = 4
        · rw [if_pos g4, if_pos g4]
          obtain ⟨r, e1, e2⟩ := texted_is (k + 3) (by omega) a0 a1 a3 l h3 hl
          obtain ⟨r', e1', e2'⟩ := texted_is (k + 4) (by omega) a0 a1 a3 l h3 hl
          have er := (at_rounds (value_texted.mono _ _ _ _ _) (Nat.le_succ (k + 3)) e1).symm.trans e1'
          obtain rfl := Option.some.inj er
          rw [e1, Option.bind_some]
          exact ⟨r, rfl, e2'⟩
        · rw [if_neg g4, if_neg g4]
          by_cases k4 : a0 = 4
          · rw [if_pos k4, if_pos k4]
            obtain ⟨r, e1, e2⟩ := read_both (k + 3) (by omega) l hl t0 t1
            obtain ⟨r', e1', e2'⟩ := read_both (k + 4) (by omega) l hl t0 t1
            have er := (at_rounds (value_read.mono _ _ _) (Nat.le_succ (k + 3)) e1).symm.trans e1'
            obtain rfl := Option.some.inj er
            rw [e1, e2', Option.bind_some]
            exact ⟨r, rfl, rfl⟩
          · rw [if_neg k4, if_neg k4]
            obtain ⟨p, p1, p2⟩ := places_is a0 a1 a3 false (B l)
            obtain ⟨r, hr⟩ := scale_ev h3 p t1
            have v1 := (hr (k + 1) (by omega)).1
            have v2 := (hr (k + 2) (by omega)).2
            have hj2 : value_Cast.j2 (k + 2) a0 a1 false a3 (B l) t0 t1 = if r.2 = 0 then some (t0, t1, false, r.1, (⟨#[]⟩ : ByteArray), 0) else some (0, 0, false, 0, (⟨#[]⟩ : ByteArray), r.2) := by
              rw [value_Cast.j2, p1, Option.bind_some, v1, Option.bind_some]
            have hr1 : colonnaderef02_Cast.j1 (k + 3) false a0 a1 false a3 (B l) t0 t1 t0 t1 false a3 (⟨#[]⟩ : ByteArray) = if r.2 = 0 then some (t0, t1, false, r.1, (⟨#[]⟩ : ByteArray), 0) else some (0, 0, false, 0, (⟨#[]⟩ : ByteArray), r.2) := by
              rw [colonnaderef02_Cast.j1, if_neg (by decide), p2, Option.bind_some, v2, Option.bind_some]
            have hfin : ∃ q, (if r.2 = 0 then some (t0, t1, false, r.1, (⟨#[]⟩ : ByteArray), (0 : Int)) else some (0, 0, false, 0, (⟨#[]⟩ : ByteArray), r.2)) = some q := by
              by_cases z : r.2 = 0
              · rw [if_pos z]; exact ⟨_, rfl⟩
              · rw [if_neg z]; exact ⟨_, rfl⟩
            by_cases k3 : a0 = 3
            · rw [if_pos k3, if_pos k3, value_Cast.j1, if_neg (by decide), if_pos k3, colonnaderef02_Cast.j0, if_pos rfl, if_pos k3]
              unfold value_scaled.f
              by_cases s0 : a1 < 0
              · rw [if_neg (show ¬ a1 ≥ 0 by omega), Option.bind_some, if_neg (by decide), if_pos s0, colonnaderef02_Cast.j1, if_pos rfl]
                exact ⟨_, rfl, rfl⟩
              · rw [if_pos (show a1 ≥ 0 by omega), Option.bind_some, if_neg s0]
                by_cases s1 : a1 ≤ 18
                · rw [if_pos (decide_eq_true s1), decide_eq_false (show ¬ a1 > 18 by omega), hj2, hr1]
                  obtain ⟨q, hq⟩ := hfin
                  exact ⟨q, hq, hq⟩
                · rw [if_neg (by simpa using s1), decide_eq_true (show a1 > 18 by omega), colonnaderef02_Cast.j1, if_pos rfl]
                  exact ⟨_, rfl, rfl⟩
            · rw [if_neg k3, if_neg k3, value_Cast.j1, colonnaderef02_Cast.j0]
              by_cases g3 : t0 = 3
              · rw [show (t0 != 3) = false from by simp [g3], show (t0 == 3) = true from by simp [g3], if_neg (by decide), if_neg k3, if_pos rfl, if_neg k3, hj2, hr1]
                obtain ⟨q, hq⟩ := hfin
                exact ⟨q, hq, hq⟩
              · rw [show (t0 != 3) = true from by simpa using g3, show (t0 == 3) = false from by simpa using g3, if_pos rfl, if_neg (by decide)]
                exact ⟨_, rfl, rfl⟩
  · rw [if_neg hc, if_neg hc]
    exact ⟨_, rfl, rfl⟩
end Go.Proofs.YtjpgjggbanpegaaGreatDoor.Pure
