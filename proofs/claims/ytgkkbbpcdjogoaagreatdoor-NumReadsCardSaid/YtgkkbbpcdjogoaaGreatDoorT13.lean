/- PRINTED BY A PROGRAM OF THIS SESSION (px.py, over the kit's print): Lean functions with the answers of Go functions of the given program, and proofs that the Go code comes to these answers; each under the conditions that its theorem states. -/
import Derived.Test.YtgkkbbpcdjogoaaGreatDoorT0
import Derived.Test.YtgkkbbpcdjogoaaGreatDoorT2
import Derived.Test.YtgkkbbpcdjogoaaGreatDoorT12
namespace Go.Proofs.YtgkkbbpcdjogoaaGreatDoor.T
open Go.RowKit Go.Proofs.YtgkkbbpcdjogoaaGreatDoorW.PrintWords Go.Proofs.YtgkkbbpcdjogoaaGreatDoorW.PrintLast Go.Proofs.YtgkkbbpcdjogoaaGreatDoorW.PrintMore
attribute [local go_sem] max2_int min2_int max_two min_two max_three min_three max_four min_four   -- for this text's walks alone
set_option linter.unusedVariables false
set_option linter.unusedSimpArgs false

/-! ### colonnaderef01_ParseDay: function 9 -/
def colonnaderef01_ParseDay.j0 : Nat → ByteArray → Bool → Option (Int × Int)
  | 0, _, _ => none
  | k + 1, x0, x40 => if x40 = true then (some (0, 12)) else (if 0 ≤ 4 then (if 4 ≤ (x0.size : Int) then ((colonnaderef01_read.f k (x0.extract 0 4) 9999).bind fun bt129 => (if 5 ≤ 7 then (if 7 ≤ (x0.size : Int) then ((colonnaderef01_read.f k (x0.extract 5 7) 99).bind fun bt131 => (if 8 ≤ (x0.size : Int) then ((colonnaderef01_read.f k (x0.extract 8 x0.size) 99).bind fun bt133 => ((colonnaderef01_Day.f k (wrap64 (bt129.1)) (wrap64 (bt131.1)) (wrap64 (bt133.1))).bind fun bt135 => (some (bt135.1, bt135.2)))) else (none))) else (none)) else (none))) else (none)) else (none))
def colonnaderef01_ParseDay.f (k : Nat) (a0 : ByteArray) : Option (Int × Int) := if (a0.size : Int) = 10 then (if 4 < (a0.size : Int) then (if (bt a0 4) = 45 then (if 7 < (a0.size : Int) then (if (bt a0 7) = 45 then (if 0 ≤ 4 then (if 4 ≤ (a0.size : Int) then ((colonnaderef01_digits.f k (a0.extract 0 4)).bind fun t126 => (if t126 = true then (if 5 ≤ 7 then (if 7 ≤ (a0.size : Int) then ((colonnaderef01_digits.f k (a0.extract 5 7)).bind fun t127 => (if t127 = true then (if 8 ≤ (a0.size : Int) then ((colonnaderef01_digits.f k (a0.extract 8 a0.size)).bind fun t128 => (colonnaderef01_ParseDay.j0 k a0 (!t128))) else (none)) else (colonnaderef01_ParseDay.j0 k a0 true))) else (none)) else (none)) else (colonnaderef01_ParseDay.j0 k a0 true))) else (none)) else (none)) else (colonnaderef01_ParseDay.j0 k a0 true)) else (none)) else (colonnaderef01_ParseDay.j0 k a0 true)) else (none)) else (colonnaderef01_ParseDay.j0 k a0 true)
theorem colonnaderef01_ParseDay.mono_l : ∀ k, (∀ y0 y1, LeO (colonnaderef01_ParseDay.j0 k y0 y1) (colonnaderef01_ParseDay.j0 (k + 1) y0 y1))
  | 0 => fun _ _ r h => by simp [colonnaderef01_ParseDay.j0] at h
  | k + 1 => by
    have ih0 := colonnaderef01_ParseDay.mono_l k
    · intro y0 y1
      unfold colonnaderef01_ParseDay.j0
      repeat' first
      | (with_reducible exact ih0 _ _)
      | (with_reducible exact colonnaderef01_Day.mono _ _ _ _)
      | (with_reducible exact colonnaderef01_digits.mono _ _)
      | (with_reducible exact colonnaderef01_read.mono _ _ _)
      | (with_reducible exact LeO.refl _)
      | (with_reducible exact LeO.none _)
      | (with_reducible refine LeO.ite ?_ ?_)
      | (with_reducible refine LeO.bind ?_ (fun _ => ?_))
      | exact ih0 _ _
      | exact colonnaderef01_Day.mono _ _ _ _
      | exact colonnaderef01_digits.mono _ _
      | exact colonnaderef01_read.mono _ _ _
      | exact LeO.none _
      | refine LeO.ite ?_ ?_
      | refine LeO.bind ?_ (fun _ => ?_)
theorem colonnaderef01_ParseDay.mono : ∀ a0 k, LeO (colonnaderef01_ParseDay.f k a0) (colonnaderef01_ParseDay.f (k + 1) a0) := by
  intro a0 k
  have ih0 := colonnaderef01_ParseDay.mono_l k
  unfold colonnaderef01_ParseDay.f
  repeat' first
      | (with_reducible exact ih0 _ _)
      | (with_reducible exact colonnaderef01_Day.mono _ _ _ _)
      | (with_reducible exact colonnaderef01_digits.mono _ _)
      | (with_reducible exact colonnaderef01_read.mono _ _ _)
      | (with_reducible exact LeO.refl _)
      | (with_reducible exact LeO.none _)
      | (with_reducible refine LeO.ite ?_ ?_)
      | (with_reducible refine LeO.bind ?_ (fun _ => ?_))
      | exact ih0 _ _
      | exact colonnaderef01_Day.mono _ _ _ _
      | exact colonnaderef01_digits.mono _ _
      | exact colonnaderef01_read.mono _ _ _
      | exact LeO.none _
      | refine LeO.ite ?_ ?_
      | refine LeO.bind ?_ (fun _ => ?_)
set_option maxHeartbeats 8000000 in
set_option maxRecDepth 100000 in
theorem colonnaderef01_ParseDay.calls (k : Nat) (a0 : ByteArray) (r1 : Int) (r2 : Int) (w : World) (h : colonnaderef01_ParseDay.f k a0 = some (r1, r2)) :
    Calls Tryz.prog 9 #[.string a0] w fun e w' => e = .returned (.tuple #[.int .i64 r1, .int .i64 r2]) ∧ Drawn0 w w' := by
  have H : (if (a0.size : Int) = 10 then (if 4 < (a0.size : Int) then (if (bt a0 4) = 45 then (if 7 < (a0.size : Int) then (if (bt a0 7) = 45 then (if 0 ≤ 4 then (if 4 ≤ (a0.size : Int) then ((colonnaderef01_digits.f k (a0.extract 0 4)).bind fun t126 => (if t126 = true then (if 5 ≤ 7 then (if 7 ≤ (a0.size : Int) then ((colonnaderef01_digits.f k (a0.extract 5 7)).bind fun t127 => (if t127 = true then (if 8 ≤ (a0.size : Int) then ((colonnaderef01_digits.f k (a0.extract 8 a0.size)).bind fun t128 => (colonnaderef01_ParseDay.j0 k a0 (!t128))) else (none)) else (colonnaderef01_ParseDay.j0 k a0 true))) else (none)) else (none)) else (colonnaderef01_ParseDay.j0 k a0 true))) else (none)) else (none)) else (colonnaderef01_ParseDay.j0 k a0 true)) else (none)) else (colonnaderef01_ParseDay.j0 k a0 true)) else (none)) else (colonnaderef01_ParseDay.j0 k a0 true)) = some (r1, r2) := h
  clear h
  have HC2 := Aside0.mk H
  clear H
  go_enter Tryz.func9, Tryz.ntmps9
  go_upto_region 1 with (fail)
  go_cut [40] (fun v40 wc => ∃ (kq : Nat) (x40_1 : Bool), v40 = .bool x40_1 ∧ Aside0 (colonnaderef01_ParseDay.j0 kq a0 x40_1 = some (r1, r2)) ∧ Aside0 (kq ≤ k) ∧ Drawn0 w wc)
  case first =>
    have H := HC2.out
    clear HC2
    by_cases c3 : (a0.size : Int) = 10
    · rw [if_pos c3] at H
      have c3b0 : ((a0.size : Int) == 10) = true := beq_iff_eq.mpr c3
      have c3b1 : ((a0.size : Int) != 10) = false := bne_eq_false_iff_eq.mpr c3
      clear c3
      (first | rw [c3b0] | (simp only [i64_w, i32_w]; rw [c3b0]) | skip)
      by_cases c4 : 4 < (a0.size : Int)
      · rw [if_pos c4] at H
        have c4b0 : decide (4 < (a0.size : Int)) = true := decide_eq_true c4
        have c4b1 : decide (4 < a0.size) = true := decide_eq_true (by omega)
        clear c4
        by_cases c6 : (bt a0 4) = 45
        · rw [if_pos c6] at H
          have c6b0 : ((bt a0 4) == 45) = true := beq_iff_eq.mpr c6
          have c6b1 : ((bt a0 4) != 45) = false := bne_eq_false_iff_eq.mpr c6
          clear c6
          by_cases c7 : 7 < (a0.size : Int)
          · rw [if_pos c7] at H
            have c7b0 : decide (7 < (a0.size : Int)) = true := decide_eq_true c7
            have c7b1 : decide (7 < a0.size) = true := decide_eq_true (by omega)
            clear c7
            by_cases c9 : (bt a0 7) = 45
            · rw [if_pos c9] at H
              have c9b0 : ((bt a0 7) == 45) = true := beq_iff_eq.mpr c9
              have c9b1 : ((bt a0 7) != 45) = false := bne_eq_false_iff_eq.mpr c9
              clear c9
              by_cases c10 : 0 ≤ 4
              · rw [if_pos c10] at H
                have c10b0 := eq_true c10
                (try (have c10n := c10; simp [size_lit] at c10n))
                (try (have c10m := eq_false (Nat.not_lt.2 c10); simp only [ByteArray.size_append, size_lit, List.length_cons, List.length_nil, Nat.reduceAdd, Nat.zero_add] at c10m))
                have c10b1 : decide (0 ≤ 4) = true := decide_eq_true c10
                clear c10
                by_cases c11 : 4 ≤ (a0.size : Int)
                · rw [if_pos c11] at H
                  have c11b0 := eq_true c11
                  (try (have c11n := c11; simp [size_lit] at c11n))
                  (try (have c11m := eq_false (Nat.not_lt.2 c11); simp only [ByteArray.size_append, size_lit, List.length_cons, List.length_nil, Nat.reduceAdd, Nat.zero_add] at c11m))
                  have c11b1 : decide (4 ≤ (a0.size : Int)) = true := decide_eq_true c11
                  clear c11
                  replace H := Option.bind_eq_some_iff.mp H
                  obtain ⟨t126, A120, H⟩ := H
                  replace H : (if t126 = true then (if 5 ≤ 7 then (if 7 ≤ (a0.size : Int) then ((colonnaderef01_digits.f k (a0.extract 5 7)).bind fun t127 => (if t127 = true then (if 8 ≤ (a0.size : Int) then ((colonnaderef01_digits.f k (a0.extract 8 a0.size)).bind fun t128 => (colonnaderef01_ParseDay.j0 k a0 (!t128))) else (none)) else (colonnaderef01_ParseDay.j0 k a0 true))) else (none)) else (none)) else (colonnaderef01_ParseDay.j0 k a0 true)) = some (r1, r2) := H
                  have A12 := Aside0.mk A120
                  clear A120
                  by_cases c13 : t126 = true
                  · subst c13
                    have H1 : (if 5 ≤ 7 then (if 7 ≤ (a0.size : Int) then ((colonnaderef01_digits.f k (a0.extract 5 7)).bind fun t127 => (if t127 = true then (if 8 ≤ (a0.size : Int) then ((colonnaderef01_digits.f k (a0.extract 8 a0.size)).bind fun t128 => (colonnaderef01_ParseDay.j0 k a0 (!t128))) else (none)) else (colonnaderef01_ParseDay.j0 k a0 true))) else (none)) else (none)) = some (r1, r2) := by rw [if_pos rfl] at H; exact H
                    clear H
                    have H := H1
                    clear H1
                    by_cases c14 : 5 ≤ 7
                    · rw [if_pos c14] at H
                      have c14b0 := eq_true c14
                      (try (have c14n := c14; simp [size_lit] at c14n))
                      (try (have c14m := eq_false (Nat.not_lt.2 c14); simp only [ByteArray.size_append, size_lit, List.length_cons, List.length_nil, Nat.reduceAdd, Nat.zero_add] at c14m))
                      have c14b1 : decide (5 ≤ 7) = true := decide_eq_true c14
                      clear c14
                      by_cases c15 : 7 ≤ (a0.size : Int)
                      · rw [if_pos c15] at H
                        have c15b0 := eq_true c15
                        (try (have c15n := c15; simp [size_lit] at c15n))
                        (try (have c15m := eq_false (Nat.not_lt.2 c15); simp only [ByteArray.size_append, size_lit, List.length_cons, List.length_nil, Nat.reduceAdd, Nat.zero_add] at c15m))
                        have c15b1 : decide (7 ≤ (a0.size : Int)) = true := decide_eq_true c15
                        clear c15
                        replace H := Option.bind_eq_some_iff.mp H
                        obtain ⟨t127, A160, H⟩ := H
                        replace H : (if t127 = true then (if 8 ≤ (a0.size : Int) then ((colonnaderef01_digits.f k (a0.extract 8 a0.size)).bind fun t128 => (colonnaderef01_ParseDay.j0 k a0 (!t128))) else (none)) else (colonnaderef01_ParseDay.j0 k a0 true)) = some (r1, r2) := H
                        have A16 := Aside0.mk A160
                        clear A160
                        by_cases c17 : t127 = true
                        · subst c17
                          have H1 : (if 8 ≤ (a0.size : Int) then ((colonnaderef01_digits.f k (a0.extract 8 a0.size)).bind fun t128 => (colonnaderef01_ParseDay.j0 k a0 (!t128))) else (none)) = some (r1, r2) := by rw [if_pos rfl] at H; exact H
                          clear H
                          have H := H1
                          clear H1
                          by_cases c18 : 8 ≤ (a0.size : Int)
                          · rw [if_pos c18] at H
                            have c18b0 := eq_true c18
                            (try (have c18n := c18; simp [size_lit] at c18n))
                            (try (have c18m := eq_false (Nat.not_lt.2 c18); simp only [ByteArray.size_append, size_lit, List.length_cons, List.length_nil, Nat.reduceAdd, Nat.zero_add] at c18m))
                            have c18b1 : decide (8 ≤ (a0.size : Int)) = true := decide_eq_true c18
                            clear c18
                            replace H := Option.bind_eq_some_iff.mp H
                            obtain ⟨t128, A190, H⟩ := H
                            replace H : (colonnaderef01_ParseDay.j0 k a0 (!t128)) = some (r1, r2) := H
                            have A19 := Aside0.mk A190
                            clear A190
                            have H' := Aside0.mk H
                            clear H
                            have p5 : 0 ≤ (4 : Int) := (by omega)
                            have q5 : 4 < a0.size := (by have : (4 : Int) < (a0.size : Int) := of_decide_eq_true (by first | (with_reducible assumption) | assumption); omega)
                            have hx5 : ∀ h : 4 < a0.size, ((a0[4]'h).toNat : Int) = bt a0 4 := bt_at a0 4
                            clear p5
                            have qi5 : (4 < (a0.size : Int)) = True := eq_true (of_decide_eq_true (by first | (with_reducible assumption) | assumption))
                            replace q5 := eq_true q5
                            have p8 : 0 ≤ (7 : Int) := (by omega)
                            have q8 : 7 < a0.size := (by have : (7 : Int) < (a0.size : Int) := of_decide_eq_true (by first | (with_reducible assumption) | assumption); omega)
                            have hx8 : ∀ h : 7 < a0.size, ((a0[7]'h).toNat : Int) = bt a0 7 := bt_at a0 7
                            clear p8
                            have qi8 : (7 < (a0.size : Int)) = True := eq_true (of_decide_eq_true (by first | (with_reducible assumption) | assumption))
                            replace q8 := eq_true q8
                            go_wp2_with (first | (go_at_call 14; (with_reducible refine (colonnaderef01_digits.calls k (a0.extract 0 4) true _ A12.out).mono ?_); rintro e w' ⟨rfl, ⟨nd, rfl⟩⟩) | (go_at_call 14; (with_reducible refine (colonnaderef01_digits.calls k (a0.extract 5 7) true _ A16.out).mono ?_); rintro e w' ⟨rfl, ⟨nd, rfl⟩⟩) | (go_at_call 14; (with_reducible refine (colonnaderef01_digits.calls k (a0.extract 8 a0.size) t128 _ A19.out).mono ?_); rintro e w' ⟨rfl, ⟨nd, rfl⟩⟩))
                            go_meet
                            case rel => exact ⟨_, (!t128), (by first | rfl | (simp; done) | (simp [*]; done)), H', ⟨by first | omega | exact Nat.le_refl _⟩, by repeat (first | exact Drawn0.refl _ | apply Drawn0.step)⟩
                          · rw [if_neg c18] at H
                            exact absurd H (by simp)
                        · replace c17 := Bool.eq_false_iff.mpr c17
                          subst c17
                          have H1 : (colonnaderef01_ParseDay.j0 k a0 true) = some (r1, r2) := by rw [if_neg (show ¬ (false = true) by decide)] at H; exact H
                          clear H
                          have H := H1
                          clear H1
                          have H' := Aside0.mk H
                          clear H
                          have p5 : 0 ≤ (4 : Int) := (by omega)
                          have q5 : 4 < a0.size := (by have : (4 : Int) < (a0.size : Int) := of_decide_eq_true (by first | (with_reducible assumption) | assumption); omega)
                          have hx5 : ∀ h : 4 < a0.size, ((a0[4]'h).toNat : Int) = bt a0 4 := bt_at a0 4
                          clear p5
                          have qi5 : (4 < (a0.size : Int)) = True := eq_true (of_decide_eq_true (by first | (with_reducible assumption) | assumption))
                          replace q5 := eq_true q5
                          have p8 : 0 ≤ (7 : Int) := (by omega)
                          have q8 : 7 < a0.size := (by have : (7 : Int) < (a0.size : Int) := of_decide_eq_true (by first | (with_reducible assumption) | assumption); omega)
                          have hx8 : ∀ h : 7 < a0.size, ((a0[7]'h).toNat : Int) = bt a0 7 := bt_at a0 7
                          clear p8
                          have qi8 : (7 < (a0.size : Int)) = True := eq_true (of_decide_eq_true (by first | (with_reducible assumption) | assumption))
                          replace q8 := eq_true q8
                          go_wp2_with (first | (go_at_call 14; (with_reducible refine (colonnaderef01_digits.calls k (a0.extract 0 4) true _ A12.out).mono ?_); rintro e w' ⟨rfl, ⟨nd, rfl⟩⟩) | (go_at_call 14; (with_reducible refine (colonnaderef01_digits.calls k (a0.extract 5 7) false _ A16.out).mono ?_); rintro e w' ⟨rfl, ⟨nd, rfl⟩⟩))
                          go_meet
                          case rel => exact ⟨_, (true), (by first | rfl | (simp; done) | (simp [*]; done)), H', ⟨by first | omega | exact Nat.le_refl _⟩, by repeat (first | exact Drawn0.refl _ | apply Drawn0.step)⟩
                      · rw [if_neg c15] at H
                        exact absurd H (by simp)
                    · rw [if_neg c14] at H
                      exact absurd H (by simp)
                  · replace c13 := Bool.eq_false_iff.mpr c13
                    subst c13
                    have H1 : (colonnaderef01_ParseDay.j0 k a0 true) = some (r1, r2) := by rw [if_neg (show ¬ (false = true) by decide)] at H; exact H
                    clear H
                    have H := H1
                    clear H1
                    have H' := Aside0.mk H
                    clear H
                    have p5 : 0 ≤ (4 : Int) := (by omega)
                    have q5 : 4 < a0.size := (by have : (4 : Int) < (a0.size : Int) := of_decide_eq_true (by first | (with_reducible assumption) | assumption); omega)
                    have hx5 : ∀ h : 4 < a0.size, ((a0[4]'h).toNat : Int) = bt a0 4 := bt_at a0 4
                    clear p5
                    have qi5 : (4 < (a0.size : Int)) = True := eq_true (of_decide_eq_true (by first | (with_reducible assumption) | assumption))
                    replace q5 := eq_true q5
                    have p8 : 0 ≤ (7 : Int) := (by omega)
                    have q8 : 7 < a0.size := (by have : (7 : Int) < (a0.size : Int) := of_decide_eq_true (by first | (with_reducible assumption) | assumption); omega)
                    have hx8 : ∀ h : 7 < a0.size, ((a0[7]'h).toNat : Int) = bt a0 7 := bt_at a0 7
                    clear p8
                    have qi8 : (7 < (a0.size : Int)) = True := eq_true (of_decide_eq_true (by first | (with_reducible assumption) | assumption))
                    replace q8 := eq_true q8
                    go_wp2_with (first | (go_at_call 14; (with_reducible refine (colonnaderef01_digits.calls k (a0.extract 0 4) false _ A12.out).mono ?_); rintro e w' ⟨rfl, ⟨nd, rfl⟩⟩))
                    go_meet
                    case rel => exact ⟨_, (true), (by first | rfl | (simp; done) | (simp [*]; done)), H', ⟨by first | omega | exact Nat.le_refl _⟩, by repeat (first | exact Drawn0.refl _ | apply Drawn0.step)⟩
                · rw [if_neg c11] at H
                  exact absurd H (by simp)
              · rw [if_neg c10] at H
                exact absurd H (by simp)
            · rw [if_neg c9] at H
              have c9b0 : ((bt a0 7) == 45) = false := beq_eq_false_iff_ne.mpr c9
              have c9b1 : ((bt a0 7) != 45) = true := bne_iff_ne.mpr c9
              have H' := Aside0.mk H
              clear H
              have p5 : 0 ≤ (4 : Int) := (by omega)
              have q5 : 4 < a0.size := (by have : (4 : Int) < (a0.size : Int) := of_decide_eq_true (by first | (with_reducible assumption) | assumption); omega)
              have hx5 : ∀ h : 4 < a0.size, ((a0[4]'h).toNat : Int) = bt a0 4 := bt_at a0 4
              clear p5
              have qi5 : (4 < (a0.size : Int)) = True := eq_true (of_decide_eq_true (by first | (with_reducible assumption) | assumption))
              replace q5 := eq_true q5
              have p8 : 0 ≤ (7 : Int) := (by omega)
              have q8 : 7 < a0.size := (by have : (7 : Int) < (a0.size : Int) := of_decide_eq_true (by first | (with_reducible assumption) | assumption); omega)
              have hx8 : ∀ h : 7 < a0.size, ((a0[7]'h).toNat : Int) = bt a0 7 := bt_at a0 7
              clear p8
              have qi8 : (7 < (a0.size : Int)) = True := eq_true (of_decide_eq_true (by first | (with_reducible assumption) | assumption))
              replace q8 := eq_true q8
              go_wp2
              go_meet
              case rel => exact ⟨_, (true), (by first | rfl | (simp; done) | (simp [*]; done)), H', ⟨by first | omega | exact Nat.le_refl _⟩, by repeat (first | exact Drawn0.refl _ | apply Drawn0.step)⟩
          · rw [if_neg c7] at H
            exact absurd H (by simp)
        · rw [if_neg c6] at H
          have c6b0 : ((bt a0 4) == 45) = false := beq_eq_false_iff_ne.mpr c6
          have c6b1 : ((bt a0 4) != 45) = true := bne_iff_ne.mpr c6
          have H' := Aside0.mk H
          clear H
          have p5 : 0 ≤ (4 : Int) := (by omega)
          have q5 : 4 < a0.size := (by have : (4 : Int) < (a0.size : Int) := of_decide_eq_true (by first | (with_reducible assumption) | assumption); omega)
          have hx5 : ∀ h : 4 < a0.size, ((a0[4]'h).toNat : Int) = bt a0 4 := bt_at a0 4
          clear p5
          have qi5 : (4 < (a0.size : Int)) = True := eq_true (of_decide_eq_true (by first | (with_reducible assumption) | assumption))
          replace q5 := eq_true q5
          go_wp2
          go_meet
          case rel => exact ⟨_, (true), (by first | rfl | (simp; done) | (simp [*]; done)), H', ⟨by first | omega | exact Nat.le_refl _⟩, by repeat (first | exact Drawn0.refl _ | apply Drawn0.step)⟩
      · rw [if_neg c4] at H
        exact absurd H (by simp)
    · rw [if_neg c3] at H
      have c3b0 : ((a0.size : Int) == 10) = false := beq_eq_false_iff_ne.mpr c3
      have c3b1 : ((a0.size : Int) != 10) = true := bne_iff_ne.mpr c3
      (first | rw [c3b0] | (simp only [i64_w, i32_w]; rw [c3b0]) | skip)
      have H' := Aside0.mk H
      clear H
      go_wp2
      go_meet
      case rel => exact ⟨_, (true), (by first | rfl | (simp; done) | (simp [*]; done)), H', ⟨by first | omega | exact Nat.le_refl _⟩, by repeat (first | exact Drawn0.refl _ | apply Drawn0.step)⟩
  case rest =>
    clear HC2
    try clear c1
    try clear p2
    try clear c3
    try clear c3b0
    try clear c3b1
    try clear c4
    try clear c4b0
    try clear c4b1
    try clear p5
    try clear q5
    try clear hx5
    try clear qi5
    try clear c6
    try clear c6b0
    try clear c6b1
    try clear c7
    try clear c7b0
    try clear c7b1
    try clear p8
    try clear q8
    try clear hx8
    try clear qi8
    try clear c9
    try clear c9b0
    try clear c9b1
    try clear c10
    try clear c10b0
    try clear c10b1
    try clear c11
    try clear c11b0
    try clear c11b1
    try clear c13
    try clear c14
    try clear c14b0
    try clear c14b1
    try clear c15
    try clear c15b0
    try clear c15b1
    try clear c17
    try clear c18
    try clear c18b0
    try clear c18b1
    try clear p5
    try clear p8
    try clear q5
    try clear q8
    obtain ⟨kq, x40_1, rfl, HA, HJ1, ⟨mc1, rfl⟩⟩ := hcut
    cases kq with
    | zero => exact absurd HA.out (by simp [colonnaderef01_ParseDay.j0])
    | succ kj1 =>
      have H := HA.out
      clear HA
      simp only [colonnaderef01_ParseDay.j0] at H
      by_cases c20 : x40_1 = true
      · subst c20
        have H1 : (some (0, 12)) = some (r1, r2) := by rw [if_pos rfl] at H; exact H
        clear H
        have H := H1
        clear H1
        simp only [Option.some.injEq, Prod.mk.injEq] at H
        obtain ⟨rfl, rfl⟩ := H
        go_wp2
        go_ret2
        exact ⟨by first | rfl | (simp; done) | (simp [*]; done), by repeat (first | exact Drawn0.refl _ | apply Drawn0.step)⟩
      · replace c20 := Bool.eq_false_iff.mpr c20
        subst c20
        have H1 : (if 0 ≤ 4 then (if 4 ≤ (a0.size : Int) then ((colonnaderef01_read.f kj1 (a0.extract 0 4) 9999).bind fun bt129 => (if 5 ≤ 7 then (if 7 ≤ (a0.size : Int) then ((colonnaderef01_read.f kj1 (a0.extract 5 7) 99).bind fun bt131 => (if 8 ≤ (a0.size : Int) then ((colonnaderef01_read.f kj1 (a0.extract 8 a0.size) 99).bind fun bt133 => ((colonnaderef01_Day.f kj1 (wrap64 (bt129.1)) (wrap64 (bt131.1)) (wrap64 (bt133.1))).bind fun bt135 => (some (bt135.1, bt135.2)))) else (none))) else (none)) else (none))) else (none)) else (none)) = some (r1, r2) := by rw [if_neg (show ¬ (false = true) by decide)] at H; exact H
        clear H
        have H := H1
        clear H1
        by_cases c21 : 0 ≤ 4
        · rw [if_pos c21] at H
          have c21b0 := eq_true c21
          (try (have c21n := c21; simp [size_lit] at c21n))
          (try (have c21m := eq_false (Nat.not_lt.2 c21); simp only [ByteArray.size_append, size_lit, List.length_cons, List.length_nil, Nat.reduceAdd, Nat.zero_add] at c21m))
          have c21b1 : decide (0 ≤ 4) = true := decide_eq_true c21
          clear c21
          by_cases c22 : 4 ≤ (a0.size : Int)
          · rw [if_pos c22] at H
            have c22b0 := eq_true c22
            (try (have c22n := c22; simp [size_lit] at c22n))
            (try (have c22m := eq_false (Nat.not_lt.2 c22); simp only [ByteArray.size_append, size_lit, List.length_cons, List.length_nil, Nat.reduceAdd, Nat.zero_add] at c22m))
            have c22b1 : decide (4 ≤ (a0.size : Int)) = true := decide_eq_true c22
            clear c22
            replace H := Option.bind_eq_some_iff.mp H
            obtain ⟨⟨t129, t130⟩, A230, H⟩ := H
            replace H : (if 5 ≤ 7 then (if 7 ≤ (a0.size : Int) then ((colonnaderef01_read.f kj1 (a0.extract 5 7) 99).bind fun bt131 => (if 8 ≤ (a0.size : Int) then ((colonnaderef01_read.f kj1 (a0.extract 8 a0.size) 99).bind fun bt133 => ((colonnaderef01_Day.f kj1 (wrap64 (t129)) (wrap64 (bt131.1)) (wrap64 (bt133.1))).bind fun bt135 => (some (bt135.1, bt135.2)))) else (none))) else (none)) else (none)) = some (r1, r2) := H
            have A23 := Aside0.mk A230
            clear A230
            by_cases c24 : 5 ≤ 7
            · rw [if_pos c24] at H
              have c24b0 := eq_true c24
              (try (have c24n := c24; simp [size_lit] at c24n))
              (try (have c24m := eq_false (Nat.not_lt.2 c24); simp only [ByteArray.size_append, size_lit, List.length_cons, List.length_nil, Nat.reduceAdd, Nat.zero_add] at c24m))
              have c24b1 : decide (5 ≤ 7) = true := decide_eq_true c24
              clear c24
              by_cases c25 : 7 ≤ (a0.size : Int)
              · rw [if_pos c25] at H
                have c25b0 := eq_true c25
                (try (have c25n := c25; simp [size_lit] at c25n))
                (try (have c25m := eq_false (Nat.not_lt.2 c25); simp only [ByteArray.size_append, size_lit, List.length_cons, List.length_nil, Nat.reduceAdd, Nat.zero_add] at c25m))
                have c25b1 : decide (7 ≤ (a0.size : Int)) = true := decide_eq_true c25
                clear c25
                replace H := Option.bind_eq_some_iff.mp H
                obtain ⟨⟨t131, t132⟩, A260, H⟩ := H
                replace H : (if 8 ≤ (a0.size : Int) then ((colonnaderef01_read.f kj1 (a0.extract 8 a0.size) 99).bind fun bt133 => ((colonnaderef01_Day.f kj1 (wrap64 (t129)) (wrap64 (t131)) (wrap64 (bt133.1))).bind fun bt135 => (some (bt135.1, bt135.2)))) else (none)) = some (r1, r2) := H
                have A26 := Aside0.mk A260
                clear A260
                by_cases c27 : 8 ≤ (a0.size : Int)
                · rw [if_pos c27] at H
                  have c27b0 := eq_true c27
                  (try (have c27n := c27; simp [size_lit] at c27n))
                  (try (have c27m := eq_false (Nat.not_lt.2 c27); simp only [ByteArray.size_append, size_lit, List.length_cons, List.length_nil, Nat.reduceAdd, Nat.zero_add] at c27m))
                  have c27b1 : decide (8 ≤ (a0.size : Int)) = true := decide_eq_true c27
                  clear c27
                  replace H := Option.bind_eq_some_iff.mp H
                  obtain ⟨⟨t133, t134⟩, A280, H⟩ := H
                  replace H : ((colonnaderef01_Day.f kj1 (wrap64 (t129)) (wrap64 (t131)) (wrap64 (t133))).bind fun bt135 => (some (bt135.1, bt135.2))) = some (r1, r2) := H
                  have A28 := Aside0.mk A280
                  clear A280
                  replace H := Option.bind_eq_some_iff.mp H
                  obtain ⟨⟨t135, t136⟩, A290, H⟩ := H
                  replace H : (some (t135, t136)) = some (r1, r2) := H
                  have A29 := Aside0.mk A290
                  clear A290
                  simp only [Option.some.injEq, Prod.mk.injEq] at H
                  obtain ⟨rfl, rfl⟩ := H
                  go_wp2_with (first | ((with_reducible refine gate_callee (f := 15) rfl ?_); refine goesL_ (some 44) rfl rfl Tryz.func15 (by kernel_rfl) rfl #[.string (a0.extract 0 4), .int .u64 9999] rfl (by (try simp only [List.map_toArray, List.map_cons, List.map_nil]); first | done | rfl | (simp only [List.length_drop, List.length_take]; rfl)) ?_; (with_reducible refine (colonnaderef01_read.calls kj1 (a0.extract 0 4) 9999 t129 t130 _ A23.out).mono ?_); rintro e w' ⟨rfl, ⟨nd, rfl⟩⟩; refine ⟨_, rfl, ?_⟩) | ((with_reducible refine gate_callee (f := 15) rfl ?_); refine goesL_ (some 50) rfl rfl Tryz.func15 (by kernel_rfl) rfl #[.string (a0.extract 5 7), .int .u64 99] rfl (by (try simp only [List.map_toArray, List.map_cons, List.map_nil]); first | done | rfl | (simp only [List.length_drop, List.length_take]; rfl)) ?_; (with_reducible refine (colonnaderef01_read.calls kj1 (a0.extract 5 7) 99 t131 t132 _ A26.out).mono ?_); rintro e w' ⟨rfl, ⟨nd, rfl⟩⟩; refine ⟨_, rfl, ?_⟩) | ((with_reducible refine gate_callee (f := 15) rfl ?_); refine goesL_ (some 56) rfl rfl Tryz.func15 (by kernel_rfl) rfl #[.string (a0.extract 8 a0.size), .int .u64 99] rfl (by (try simp only [List.map_toArray, List.map_cons, List.map_nil]); first | done | rfl | (simp only [List.length_drop, List.length_take]; rfl)) ?_; (with_reducible refine (colonnaderef01_read.calls kj1 (a0.extract 8 a0.size) 99 t133 t134 _ A28.out).mono ?_); rintro e w' ⟨rfl, ⟨nd, rfl⟩⟩; refine ⟨_, rfl, ?_⟩) | ((with_reducible refine gate_callee (f := 21) rfl ?_); refine goesL_ (some 65) rfl rfl Tryz.func21 (by kernel_rfl) rfl #[.int .i64 (wrap64 (t129)), .int .i64 (wrap64 (t131)), .int .i64 (wrap64 (t133))] rfl (by (try simp only [List.map_toArray, List.map_cons, List.map_nil]); first | done | rfl | (simp only [List.length_drop, List.length_take]; rfl)) ?_; (with_reducible refine (colonnaderef01_Day.calls kj1 (wrap64 (t129)) (wrap64 (t131)) (wrap64 (t133)) t135 t136 _ A29.out).mono ?_); rintro e w' ⟨rfl, ⟨nd, rfl⟩⟩; refine ⟨_, rfl, ?_⟩))
                  go_ret2
                  exact ⟨by first | rfl | (simp; done) | (simp [*]; done), by repeat (first | exact Drawn0.refl _ | apply Drawn0.step)⟩
                · rw [if_neg c27] at H
                  exact absurd H (by simp)
              · rw [if_neg c25] at H
                exact absurd H (by simp)
            · rw [if_neg c24] at H
              exact absurd H (by simp)
          · rw [if_neg c22] at H
            exact absurd H (by simp)
        · rw [if_neg c21] at H
          exact absurd H (by simp)

end Go.Proofs.YtgkkbbpcdjogoaaGreatDoor.T
