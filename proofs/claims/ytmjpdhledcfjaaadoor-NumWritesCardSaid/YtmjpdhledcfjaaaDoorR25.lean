/- PRINTED BY A PROGRAM OF THIS SESSION (px.py, over the kit's print): Lean functions with the answers of Go functions of the given program, and proofs that the Go code comes to these answers; each under the conditions that its theorem states. -/
import Derived.Test.YtmjpdhledcfjaaaDoorR0
import Derived.Test.YtmjpdhledcfjaaaDoorR13
import Derived.Test.YtmjpdhledcfjaaaDoorR20
import Derived.Test.YtmjpdhledcfjaaaDoorR24
namespace Go.Proofs.YtmjpdhledcfjaaaDoor.R
open Go.RowKit Go.Proofs.YtmjpdhledcfjaaaDoorW.PrintWords Go.Proofs.YtmjpdhledcfjaaaDoorW.PrintLast Go.Proofs.YtmjpdhledcfjaaaDoorW.PrintMore
attribute [local go_sem] max2_int min2_int max_two min_two max_three min_three max_four min_four   -- for this text's walks alone
set_option linter.unusedVariables false
set_option linter.unusedSimpArgs false

/-! ### colonnaderef01_Scale: function 46 -/
def colonnaderef01_Scale.j0 : Nat → Int → Int → Int → Bool → Option (Int × Int)
  | 0, _, _, _, _ => none
  | k + 1, x0, x1, x2, x29 => if x29 = true then (some (0, 1)) else ((colonnaderef01_Fits.f x0).bind fun t332 => (if t332 = true then (if x2 ≥ x1 then ((colonnaderef01_Pow10.f k (wrap64 (x2 - x1))).bind fun bt333 => ((colonnaderef01_Mul.f k x0 bt333.1).bind fun bt335 => (if bt335.2 = 0 then ((colonnaderef01_Fits.f bt335.1).bind fun t337 => (if t337 = true then (some (bt335.1, 0)) else (some (0, 10)))) else (some (0, 10))))) else ((colonnaderef01_Pow10.f k (wrap64 (x1 - x2))).bind fun bt338 => ((colonnaderef01_amount.f x0).bind fun t340 => (if (IntKind.u64.wrap (bt338.1)) = 0 then (none) else (if (IntKind.u64.wrap (2 * (Int.tmod t340 (IntKind.u64.wrap (bt338.1))))) ≥ (IntKind.u64.wrap (bt338.1)) then ((colonnaderef01_signed.f k (IntKind.u64.wrap ((IntKind.u64.wrap (Int.tdiv t340 (IntKind.u64.wrap (bt338.1)))) + 1)) (decide (x0 < 0))).bind fun bt341 => (some (bt341.1, bt341.2))) else ((colonnaderef01_signed.f k (IntKind.u64.wrap (Int.tdiv t340 (IntKind.u64.wrap (bt338.1)))) (decide (x0 < 0))).bind fun bt343 => (some (bt343.1, bt343.2)))))))) else (some (0, 10))))
def colonnaderef01_Scale.f (k : Nat) (a0 : Int) (a1 : Int) (a2 : Int) : Option (Int × Int) := if a1 < 0 then (colonnaderef01_Scale.j0 k a0 a1 a2 true) else (if a1 > 18 then (colonnaderef01_Scale.j0 k a0 a1 a2 true) else (if a2 < 0 then (colonnaderef01_Scale.j0 k a0 a1 a2 true) else (colonnaderef01_Scale.j0 k a0 a1 a2 (decide (a2 > 18)))))
theorem colonnaderef01_Scale.mono_l : ∀ k, (∀ y0 y1 y2 y3, LeO (colonnaderef01_Scale.j0 k y0 y1 y2 y3) (colonnaderef01_Scale.j0 (k + 1) y0 y1 y2 y3))
  | 0 => fun _ _ _ _ r h => by simp [colonnaderef01_Scale.j0] at h
  | k + 1 => by
    have ih0 := colonnaderef01_Scale.mono_l k
    · intro y0 y1 y2 y3
      unfold colonnaderef01_Scale.j0
      repeat' first
      | (with_reducible exact ih0 _ _ _ _)
      | (with_reducible exact colonnaderef01_Mul.mono _ _ _)
      | (with_reducible exact colonnaderef01_Pow10.mono _ _)
      | (with_reducible exact colonnaderef01_signed.mono _ _ _)
      | (with_reducible exact LeO.refl _)
      | (with_reducible exact LeO.none _)
      | (with_reducible refine LeO.ite ?_ ?_)
      | (with_reducible refine LeO.bind ?_ (fun _ => ?_))
      | exact ih0 _ _ _ _
      | exact colonnaderef01_Mul.mono _ _ _
      | exact colonnaderef01_Pow10.mono _ _
      | exact colonnaderef01_signed.mono _ _ _
      | exact LeO.none _
      | refine LeO.ite ?_ ?_
      | refine LeO.bind ?_ (fun _ => ?_)
theorem colonnaderef01_Scale.mono : ∀ a0 a1 a2 k, LeO (colonnaderef01_Scale.f k a0 a1 a2) (colonnaderef01_Scale.f (k + 1) a0 a1 a2) := by
  intro a0 a1 a2 k
  have ih0 := colonnaderef01_Scale.mono_l k
  unfold colonnaderef01_Scale.f
  repeat' first
      | (with_reducible exact ih0 _ _ _ _)
      | (with_reducible exact colonnaderef01_Mul.mono _ _ _)
      | (with_reducible exact colonnaderef01_Pow10.mono _ _)
      | (with_reducible exact colonnaderef01_signed.mono _ _ _)
      | (with_reducible exact LeO.refl _)
      | (with_reducible exact LeO.none _)
      | (with_reducible refine LeO.ite ?_ ?_)
      | (with_reducible refine LeO.bind ?_ (fun _ => ?_))
      | exact ih0 _ _ _ _
      | exact colonnaderef01_Mul.mono _ _ _
      | exact colonnaderef01_Pow10.mono _ _
      | exact colonnaderef01_signed.mono _ _ _
      | exact LeO.none _
      | refine LeO.ite ?_ ?_
      | refine LeO.bind ?_ (fun _ => ?_)
set_option maxHeartbeats 8000000 in
set_option maxRecDepth 100000 in
theorem colonnaderef01_Scale.calls (k : Nat) (a0 : Int) (a1 : Int) (a2 : Int) (r1 : Int) (r2 : Int) (w : World) (h : colonnaderef01_Scale.f k a0 a1 a2 = some (r1, r2)) :
    Calls Tryd.prog 46 #[.int .i64 a0, .int .i64 a1, .int .i64 a2] w fun e w' => e = .returned (.tuple #[.int .i64 r1, .int .i64 r2]) ∧ Drawn0 w w' := by
  have H : (if a1 < 0 then (colonnaderef01_Scale.j0 k a0 a1 a2 true) else (if a1 > 18 then (colonnaderef01_Scale.j0 k a0 a1 a2 true) else (if a2 < 0 then (colonnaderef01_Scale.j0 k a0 a1 a2 true) else (colonnaderef01_Scale.j0 k a0 a1 a2 (decide (a2 > 18)))))) = some (r1, r2) := h
  clear h
  have HC4 := Aside0.mk H
  clear H
  go_enter Tryd.func46, Tryd.ntmps46
  go_upto_region 1 with (fail)
  go_cut [29] (fun v29 wc => ∃ (kq : Nat) (x29_3 : Bool), v29 = .bool x29_3 ∧ Aside0 (colonnaderef01_Scale.j0 kq a0 a1 a2 x29_3 = some (r1, r2)) ∧ Aside0 (kq ≤ k) ∧ Drawn0 w wc)
  case first =>
    have H := HC4.out
    clear HC4
    by_cases c5 : a1 < 0
    · rw [if_pos c5] at H
      have c5b0 : decide (a1 < 0) = true := decide_eq_true c5
      clear c5
      (first | rw [c5b0] | (simp only [i64_w, i32_w]; rw [c5b0]) | skip)
      have H' := Aside0.mk H
      clear H
      go_wp2
      go_meet
      case rel => exact ⟨_, (true), (by first | rfl | (simp; done) | (simp [*]; done)), H', ⟨by first | omega | exact Nat.le_refl _⟩, by repeat (first | exact Drawn0.refl _ | apply Drawn0.step)⟩
    · rw [if_neg c5] at H
      have c5b0 : decide (a1 < 0) = false := decide_eq_false c5
      clear c5
      (first | rw [c5b0] | (simp only [i64_w, i32_w]; rw [c5b0]) | skip)
      by_cases c6 : a1 > 18
      · rw [if_pos c6] at H
        have c6b0 : decide (18 < a1) = true := decide_eq_true c6
        clear c6
        have H' := Aside0.mk H
        clear H
        go_wp2
        go_meet
        case rel => exact ⟨_, (true), (by first | rfl | (simp; done) | (simp [*]; done)), H', ⟨by first | omega | exact Nat.le_refl _⟩, by repeat (first | exact Drawn0.refl _ | apply Drawn0.step)⟩
      · rw [if_neg c6] at H
        have c6b0 : decide (18 < a1) = false := decide_eq_false c6
        clear c6
        by_cases c7 : a2 < 0
        · rw [if_pos c7] at H
          have c7b0 : decide (a2 < 0) = true := decide_eq_true c7
          clear c7
          have H' := Aside0.mk H
          clear H
          go_wp2
          go_meet
          case rel => exact ⟨_, (true), (by first | rfl | (simp; done) | (simp [*]; done)), H', ⟨by first | omega | exact Nat.le_refl _⟩, by repeat (first | exact Drawn0.refl _ | apply Drawn0.step)⟩
        · rw [if_neg c7] at H
          have c7b0 : decide (a2 < 0) = false := decide_eq_false c7
          clear c7
          have H' := Aside0.mk H
          clear H
          go_wp2
          go_meet
          case rel => exact ⟨_, (decide (a2 > 18)), (by first | rfl | (simp; done) | (simp [*]; done)), H', ⟨by first | omega | exact Nat.le_refl _⟩, by repeat (first | exact Drawn0.refl _ | apply Drawn0.step)⟩
  case rest =>
    clear HC4
    try clear p2
    try clear c4
    try clear c5
    try clear c5b0
    try clear c6
    try clear c6b0
    try clear c7
    try clear c7b0
    obtain ⟨kq, x29_3, rfl, HA, HJ3, ⟨mc3, rfl⟩⟩ := hcut
    cases kq with
    | zero => exact absurd HA.out (by simp [colonnaderef01_Scale.j0])
    | succ kj3 =>
      have H := HA.out
      clear HA
      simp only [colonnaderef01_Scale.j0] at H
      by_cases c8 : x29_3 = true
      · subst c8
        have H1 : (some (0, 1)) = some (r1, r2) := by rw [if_pos rfl] at H; exact H
        clear H
        have H := H1
        clear H1
        simp only [Option.some.injEq, Prod.mk.injEq] at H
        obtain ⟨rfl, rfl⟩ := H
        go_wp2
        go_ret2
        exact ⟨by first | rfl | (simp; done) | (simp [*]; done), by repeat (first | exact Drawn0.refl _ | apply Drawn0.step)⟩
      · replace c8 := Bool.eq_false_iff.mpr c8
        subst c8
        have H1 : ((colonnaderef01_Fits.f a0).bind fun t332 => (if t332 = true then (if a2 ≥ a1 then ((colonnaderef01_Pow10.f kj3 (wrap64 (a2 - a1))).bind fun bt333 => ((colonnaderef01_Mul.f kj3 a0 bt333.1).bind fun bt335 => (if bt335.2 = 0 then ((colonnaderef01_Fits.f bt335.1).bind fun t337 => (if t337 = true then (some (bt335.1, 0)) else (some (0, 10)))) else (some (0, 10))))) else ((colonnaderef01_Pow10.f kj3 (wrap64 (a1 - a2))).bind fun bt338 => ((colonnaderef01_amount.f a0).bind fun t340 => (if (IntKind.u64.wrap (bt338.1)) = 0 then (none) else (if (IntKind.u64.wrap (2 * (Int.tmod t340 (IntKind.u64.wrap (bt338.1))))) ≥ (IntKind.u64.wrap (bt338.1)) then ((colonnaderef01_signed.f kj3 (IntKind.u64.wrap ((IntKind.u64.wrap (Int.tdiv t340 (IntKind.u64.wrap (bt338.1)))) + 1)) (decide (a0 < 0))).bind fun bt341 => (some (bt341.1, bt341.2))) else ((colonnaderef01_signed.f kj3 (IntKind.u64.wrap (Int.tdiv t340 (IntKind.u64.wrap (bt338.1)))) (decide (a0 < 0))).bind fun bt343 => (some (bt343.1, bt343.2)))))))) else (some (0, 10)))) = some (r1, r2) := by rw [if_neg (show ¬ (false = true) by decide)] at H; exact H
        clear H
        have H := H1
        clear H1
        replace H := Option.bind_eq_some_iff.mp H
        obtain ⟨t332, A90, H⟩ := H
        replace H : (if t332 = true then (if a2 ≥ a1 then ((colonnaderef01_Pow10.f kj3 (wrap64 (a2 - a1))).bind fun bt333 => ((colonnaderef01_Mul.f kj3 a0 bt333.1).bind fun bt335 => (if bt335.2 = 0 then ((colonnaderef01_Fits.f bt335.1).bind fun t337 => (if t337 = true then (some (bt335.1, 0)) else (some (0, 10)))) else (some (0, 10))))) else ((colonnaderef01_Pow10.f kj3 (wrap64 (a1 - a2))).bind fun bt338 => ((colonnaderef01_amount.f a0).bind fun t340 => (if (IntKind.u64.wrap (bt338.1)) = 0 then (none) else (if (IntKind.u64.wrap (2 * (Int.tmod t340 (IntKind.u64.wrap (bt338.1))))) ≥ (IntKind.u64.wrap (bt338.1)) then ((colonnaderef01_signed.f kj3 (IntKind.u64.wrap ((IntKind.u64.wrap (Int.tdiv t340 (IntKind.u64.wrap (bt338.1)))) + 1)) (decide (a0 < 0))).bind fun bt341 => (some (bt341.1, bt341.2))) else ((colonnaderef01_signed.f kj3 (IntKind.u64.wrap (Int.tdiv t340 (IntKind.u64.wrap (bt338.1)))) (decide (a0 < 0))).bind fun bt343 => (some (bt343.1, bt343.2)))))))) else (some (0, 10))) = some (r1, r2) := H
        have A9 := Aside0.mk A90
        clear A90
        by_cases c10 : t332 = true
        · subst c10
          have H1 : (if a2 ≥ a1 then ((colonnaderef01_Pow10.f kj3 (wrap64 (a2 - a1))).bind fun bt333 => ((colonnaderef01_Mul.f kj3 a0 bt333.1).bind fun bt335 => (if bt335.2 = 0 then ((colonnaderef01_Fits.f bt335.1).bind fun t337 => (if t337 = true then (some (bt335.1, 0)) else (some (0, 10)))) else (some (0, 10))))) else ((colonnaderef01_Pow10.f kj3 (wrap64 (a1 - a2))).bind fun bt338 => ((colonnaderef01_amount.f a0).bind fun t340 => (if (IntKind.u64.wrap (bt338.1)) = 0 then (none) else (if (IntKind.u64.wrap (2 * (Int.tmod t340 (IntKind.u64.wrap (bt338.1))))) ≥ (IntKind.u64.wrap (bt338.1)) then ((colonnaderef01_signed.f kj3 (IntKind.u64.wrap ((IntKind.u64.wrap (Int.tdiv t340 (IntKind.u64.wrap (bt338.1)))) + 1)) (decide (a0 < 0))).bind fun bt341 => (some (bt341.1, bt341.2))) else ((colonnaderef01_signed.f kj3 (IntKind.u64.wrap (Int.tdiv t340 (IntKind.u64.wrap (bt338.1)))) (decide (a0 < 0))).bind fun bt343 => (some (bt343.1, bt343.2)))))))) = some (r1, r2) := by rw [if_pos rfl] at H; exact H
          clear H
          have H := H1
          clear H1
          by_cases c11 : a2 ≥ a1
          · rw [if_pos c11] at H
            have c11b0 : decide (a1 ≤ a2) = true := decide_eq_true c11
            clear c11
            replace H := Option.bind_eq_some_iff.mp H
            obtain ⟨⟨t333, t334⟩, A120, H⟩ := H
            replace H : ((colonnaderef01_Mul.f kj3 a0 t333).bind fun bt335 => (if bt335.2 = 0 then ((colonnaderef01_Fits.f bt335.1).bind fun t337 => (if t337 = true then (some (bt335.1, 0)) else (some (0, 10)))) else (some (0, 10)))) = some (r1, r2) := H
            have A12 := Aside0.mk A120
            clear A120
            replace H := Option.bind_eq_some_iff.mp H
            obtain ⟨⟨t335, t336⟩, A130, H⟩ := H
            replace H : (if t336 = 0 then ((colonnaderef01_Fits.f t335).bind fun t337 => (if t337 = true then (some (t335, 0)) else (some (0, 10)))) else (some (0, 10))) = some (r1, r2) := H
            have A13 := Aside0.mk A130
            clear A130
            by_cases c14 : t336 = 0
            · rw [if_pos c14] at H
              have c14b0 : (t336 == 0) = true := beq_iff_eq.mpr c14
              have c14b1 : (t336 != 0) = false := bne_eq_false_iff_eq.mpr c14
              clear c14
              replace H := Option.bind_eq_some_iff.mp H
              obtain ⟨t337, A150, H⟩ := H
              replace H : (if t337 = true then (some (t335, 0)) else (some (0, 10))) = some (r1, r2) := H
              have A15 := Aside0.mk A150
              clear A150
              by_cases c16 : t337 = true
              · subst c16
                have H1 : (some (t335, 0)) = some (r1, r2) := by rw [if_pos rfl] at H; exact H
                clear H
                have H := H1
                clear H1
                simp only [Option.some.injEq, Prod.mk.injEq] at H
                obtain ⟨rfl, rfl⟩ := H
                go_wp2_with (first | ((with_reducible refine gate_callee (f := 50) rfl ?_); refine goesL_ (some 31) rfl rfl Tryd.func50 (by kernel_rfl) rfl #[.int .i64 a0] rfl (by (try simp only [List.map_toArray, List.map_cons, List.map_nil]); first | done | rfl | (simp only [List.length_drop, List.length_take]; rfl)) ?_; (with_reducible refine (colonnaderef01_Fits.calls a0 true _ A9.out).mono ?_); rintro e w' ⟨rfl, ⟨nd, rfl⟩⟩; refine ⟨_, rfl, ?_⟩) | ((with_reducible refine gate_callee (f := 48) rfl ?_); refine goesL_ (some 40) rfl rfl Tryd.func48 (by kernel_rfl) rfl #[.int .i64 (wrap64 (a2 - a1))] rfl (by (try simp only [List.map_toArray, List.map_cons, List.map_nil]); first | done | rfl | (simp only [List.length_drop, List.length_take]; rfl)) ?_; (with_reducible refine (colonnaderef01_Pow10.calls kj3 (wrap64 (a2 - a1)) t333 t334 _ A12.out).mono ?_); rintro e w' ⟨rfl, ⟨nd, rfl⟩⟩; refine ⟨_, rfl, ?_⟩) | ((with_reducible refine gate_callee (f := 40) rfl ?_); refine goesL_ (some 46) rfl rfl Tryd.func40 (by kernel_rfl) rfl #[.int .i64 a0, .int .i64 t333] rfl (by (try simp only [List.map_toArray, List.map_cons, List.map_nil]); first | done | rfl | (simp only [List.length_drop, List.length_take]; rfl)) ?_; (with_reducible refine (colonnaderef01_Mul.calls kj3 a0 t333 t335 t336 _ A13.out).mono ?_); rintro e w' ⟨rfl, ⟨nd, rfl⟩⟩; refine ⟨_, rfl, ?_⟩) | (go_at_call 50; (with_reducible refine (colonnaderef01_Fits.calls t335 true _ A15.out).mono ?_); rintro e w' ⟨rfl, ⟨nd, rfl⟩⟩))
                go_ret2
                exact ⟨by first | rfl | (simp; done) | (simp [*]; done), by repeat (first | exact Drawn0.refl _ | apply Drawn0.step)⟩
              · replace c16 := Bool.eq_false_iff.mpr c16
                subst c16
                have H1 : (some (0, 10)) = some (r1, r2) := by rw [if_neg (show ¬ (false = true) by decide)] at H; exact H
                clear H
                have H := H1
                clear H1
                simp only [Option.some.injEq, Prod.mk.injEq] at H
                obtain ⟨rfl, rfl⟩ := H
                go_wp2_with (first | ((with_reducible refine gate_callee (f := 50) rfl ?_); refine goesL_ (some 31) rfl rfl Tryd.func50 (by kernel_rfl) rfl #[.int .i64 a0] rfl (by (try simp only [List.map_toArray, List.map_cons, List.map_nil]); first | done | rfl | (simp only [List.length_drop, List.length_take]; rfl)) ?_; (with_reducible refine (colonnaderef01_Fits.calls a0 true _ A9.out).mono ?_); rintro e w' ⟨rfl, ⟨nd, rfl⟩⟩; refine ⟨_, rfl, ?_⟩) | ((with_reducible refine gate_callee (f := 48) rfl ?_); refine goesL_ (some 40) rfl rfl Tryd.func48 (by kernel_rfl) rfl #[.int .i64 (wrap64 (a2 - a1))] rfl (by (try simp only [List.map_toArray, List.map_cons, List.map_nil]); first | done | rfl | (simp only [List.length_drop, List.length_take]; rfl)) ?_; (with_reducible refine (colonnaderef01_Pow10.calls kj3 (wrap64 (a2 - a1)) t333 t334 _ A12.out).mono ?_); rintro e w' ⟨rfl, ⟨nd, rfl⟩⟩; refine ⟨_, rfl, ?_⟩) | ((with_reducible refine gate_callee (f := 40) rfl ?_); refine goesL_ (some 46) rfl rfl Tryd.func40 (by kernel_rfl) rfl #[.int .i64 a0, .int .i64 t333] rfl (by (try simp only [List.map_toArray, List.map_cons, List.map_nil]); first | done | rfl | (simp only [List.length_drop, List.length_take]; rfl)) ?_; (with_reducible refine (colonnaderef01_Mul.calls kj3 a0 t333 t335 t336 _ A13.out).mono ?_); rintro e w' ⟨rfl, ⟨nd, rfl⟩⟩; refine ⟨_, rfl, ?_⟩) | (go_at_call 50; (with_reducible refine (colonnaderef01_Fits.calls t335 false _ A15.out).mono ?_); rintro e w' ⟨rfl, ⟨nd, rfl⟩⟩))
                go_ret2
                exact ⟨by first | rfl | (simp; done) | (simp [*]; done), by repeat (first | exact Drawn0.refl _ | apply Drawn0.step)⟩
            · rw [if_neg c14] at H
              have c14b0 : (t336 == 0) = false := beq_eq_false_iff_ne.mpr c14
              have c14b1 : (t336 != 0) = true := bne_iff_ne.mpr c14
              simp only [Option.some.injEq, Prod.mk.injEq] at H
              obtain ⟨rfl, rfl⟩ := H
              go_wp2_with (first | ((with_reducible refine gate_callee (f := 50) rfl ?_); refine goesL_ (some 31) rfl rfl Tryd.func50 (by kernel_rfl) rfl #[.int .i64 a0] rfl (by (try simp only [List.map_toArray, List.map_cons, List.map_nil]); first | done | rfl | (simp only [List.length_drop, List.length_take]; rfl)) ?_; (with_reducible refine (colonnaderef01_Fits.calls a0 true _ A9.out).mono ?_); rintro e w' ⟨rfl, ⟨nd, rfl⟩⟩; refine ⟨_, rfl, ?_⟩) | ((with_reducible refine gate_callee (f := 48) rfl ?_); refine goesL_ (some 40) rfl rfl Tryd.func48 (by kernel_rfl) rfl #[.int .i64 (wrap64 (a2 - a1))] rfl (by (try simp only [List.map_toArray, List.map_cons, List.map_nil]); first | done | rfl | (simp only [List.length_drop, List.length_take]; rfl)) ?_; (with_reducible refine (colonnaderef01_Pow10.calls kj3 (wrap64 (a2 - a1)) t333 t334 _ A12.out).mono ?_); rintro e w' ⟨rfl, ⟨nd, rfl⟩⟩; refine ⟨_, rfl, ?_⟩) | ((with_reducible refine gate_callee (f := 40) rfl ?_); refine goesL_ (some 46) rfl rfl Tryd.func40 (by kernel_rfl) rfl #[.int .i64 a0, .int .i64 t333] rfl (by (try simp only [List.map_toArray, List.map_cons, List.map_nil]); first | done | rfl | (simp only [List.length_drop, List.length_take]; rfl)) ?_; (with_reducible refine (colonnaderef01_Mul.calls kj3 a0 t333 t335 t336 _ A13.out).mono ?_); rintro e w' ⟨rfl, ⟨nd, rfl⟩⟩; refine ⟨_, rfl, ?_⟩))
              go_ret2
              exact ⟨by first | rfl | (simp; done) | (simp [*]; done), by repeat (first | exact Drawn0.refl _ | apply Drawn0.step)⟩
          · rw [if_neg c11] at H
            have c11b0 : decide (a1 ≤ a2) = false := decide_eq_false c11
            clear c11
            replace H := Option.bind_eq_some_iff.mp H
            obtain ⟨⟨t338, t339⟩, A170, H⟩ := H
            replace H : ((colonnaderef01_amount.f a0).bind fun t340 => (if (IntKind.u64.wrap (t338)) = 0 then (none) else (if (IntKind.u64.wrap (2 * (Int.tmod t340 (IntKind.u64.wrap (t338))))) ≥ (IntKind.u64.wrap (t338)) then ((colonnaderef01_signed.f kj3 (IntKind.u64.wrap ((IntKind.u64.wrap (Int.tdiv t340 (IntKind.u64.wrap (t338)))) + 1)) (decide (a0 < 0))).bind fun bt341 => (some (bt341.1, bt341.2))) else ((colonnaderef01_signed.f kj3 (IntKind.u64.wrap (Int.tdiv t340 (IntKind.u64.wrap (t338)))) (decide (a0 < 0))).bind fun bt343 => (some (bt343.1, bt343.2)))))) = some (r1, r2) := H
            have A17 := Aside0.mk A170
            clear A170
            replace H := Option.bind_eq_some_iff.mp H
            obtain ⟨t340, A180, H⟩ := H
            replace H : (if (IntKind.u64.wrap (t338)) = 0 then (none) else (if (IntKind.u64.wrap (2 * (Int.tmod t340 (IntKind.u64.wrap (t338))))) ≥ (IntKind.u64.wrap (t338)) then ((colonnaderef01_signed.f kj3 (IntKind.u64.wrap ((IntKind.u64.wrap (Int.tdiv t340 (IntKind.u64.wrap (t338)))) + 1)) (decide (a0 < 0))).bind fun bt341 => (some (bt341.1, bt341.2))) else ((colonnaderef01_signed.f kj3 (IntKind.u64.wrap (Int.tdiv t340 (IntKind.u64.wrap (t338)))) (decide (a0 < 0))).bind fun bt343 => (some (bt343.1, bt343.2))))) = some (r1, r2) := H
            have A18 := Aside0.mk A180
            clear A180
            by_cases c19 : (IntKind.u64.wrap (t338)) = 0
            · rw [if_pos c19] at H
              exact absurd H (by simp)
            · rw [if_neg c19] at H
              have c19b0 : ((IntKind.u64.wrap (t338)) == 0) = false := beq_eq_false_iff_ne.mpr c19
              have c19b1 : ((IntKind.u64.wrap (t338)) != 0) = true := bne_iff_ne.mpr c19
              by_cases c20 : (IntKind.u64.wrap (2 * (Int.tmod t340 (IntKind.u64.wrap (t338))))) ≥ (IntKind.u64.wrap (t338))
              · rw [if_pos c20] at H
                have c20b0 : decide ((IntKind.u64.wrap (t338)) ≤ (IntKind.u64.wrap (2 * (Int.tmod t340 (IntKind.u64.wrap (t338)))))) = true := decide_eq_true c20
                clear c20
                replace H := Option.bind_eq_some_iff.mp H
                obtain ⟨⟨t341, t342⟩, A210, H⟩ := H
                replace H : (some (t341, t342)) = some (r1, r2) := H
                have A21 := Aside0.mk A210
                clear A210
                simp only [Option.some.injEq, Prod.mk.injEq] at H
                obtain ⟨rfl, rfl⟩ := H
                go_wp2_with (first | ((with_reducible refine gate_callee (f := 50) rfl ?_); refine goesL_ (some 31) rfl rfl Tryd.func50 (by kernel_rfl) rfl #[.int .i64 a0] rfl (by (try simp only [List.map_toArray, List.map_cons, List.map_nil]); first | done | rfl | (simp only [List.length_drop, List.length_take]; rfl)) ?_; (with_reducible refine (colonnaderef01_Fits.calls a0 true _ A9.out).mono ?_); rintro e w' ⟨rfl, ⟨nd, rfl⟩⟩; refine ⟨_, rfl, ?_⟩) | ((with_reducible refine gate_callee (f := 48) rfl ?_); refine goesL_ (some 61) rfl rfl Tryd.func48 (by kernel_rfl) rfl #[.int .i64 (wrap64 (a1 - a2))] rfl (by (try simp only [List.map_toArray, List.map_cons, List.map_nil]); first | done | rfl | (simp only [List.length_drop, List.length_take]; rfl)) ?_; (with_reducible refine (colonnaderef01_Pow10.calls kj3 (wrap64 (a1 - a2)) t338 t339 _ A17.out).mono ?_); rintro e w' ⟨rfl, ⟨nd, rfl⟩⟩; refine ⟨_, rfl, ?_⟩) | ((with_reducible refine gate_callee (f := 62) rfl ?_); refine goesL_ (some 65) rfl rfl Tryd.func62 (by kernel_rfl) rfl #[.int .i64 a0] rfl (by (try simp only [List.map_toArray, List.map_cons, List.map_nil]); first | done | rfl | (simp only [List.length_drop, List.length_take]; rfl)) ?_; (with_reducible refine (colonnaderef01_amount.calls a0 t340 _ A18.out).mono ?_); rintro e w' ⟨rfl, ⟨nd, rfl⟩⟩; refine ⟨_, rfl, ?_⟩) | ((with_reducible refine gate_callee (f := 66) rfl ?_); refine goesL_ (some 83) rfl rfl Tryd.func66 (by kernel_rfl) rfl #[.int .u64 (IntKind.u64.wrap ((IntKind.u64.wrap (Int.tdiv t340 (IntKind.u64.wrap (t338)))) + 1)), .bool (decide (a0 < 0))] rfl (by (try simp only [List.map_toArray, List.map_cons, List.map_nil]); first | done | rfl | (simp only [List.length_drop, List.length_take]; rfl)) ?_; (with_reducible refine (colonnaderef01_signed.calls kj3 (IntKind.u64.wrap ((IntKind.u64.wrap (Int.tdiv t340 (IntKind.u64.wrap (t338)))) + 1)) (decide (a0 < 0)) t341 t342 _ A21.out).mono ?_); rintro e w' ⟨rfl, ⟨nd, rfl⟩⟩; refine ⟨_, rfl, ?_⟩))
                go_ret2
                exact ⟨by first | rfl | (simp; done) | (simp [*]; done), by repeat (first | exact Drawn0.refl _ | apply Drawn0.step)⟩
              · rw [if_neg c20] at H
                have c20b0 : decide ((IntKind.u64.wrap (t338)) ≤ (IntKind.u64.wrap (2 * (Int.tmod t340 (IntKind.u64.wrap (t338)))))) = false := decide_eq_false c20
                clear c20
                replace H := Option.bind_eq_some_iff.mp H
                obtain ⟨⟨t343, t344⟩, A220, H⟩ := H
                replace H : (some (t343, t344)) = some (r1, r2) := H
                have A22 := Aside0.mk A220
                clear A220
                simp only [Option.some.injEq, Prod.mk.injEq] at H
                obtain ⟨rfl, rfl⟩ := H
                go_wp2_with (first | ((with_reducible refine gate_callee (f := 50) rfl ?_); refine goesL_ (some 31) rfl rfl Tryd.func50 (by kernel_rfl) rfl #[.int .i64 a0] rfl (by (try simp only [List.map_toArray, List.map_cons, List.map_nil]); first | done | rfl | (simp only [List.length_drop, List.length_take]; rfl)) ?_; (with_reducible refine (colonnaderef01_Fits.calls a0 true _ A9.out).mono ?_); rintro e w' ⟨rfl, ⟨nd, rfl⟩⟩; refine ⟨_, rfl, ?_⟩) | ((with_reducible refine gate_callee (f := 48) rfl ?_); refine goesL_ (some 61) rfl rfl Tryd.func48 (by kernel_rfl) rfl #[.int .i64 (wrap64 (a1 - a2))] rfl (by (try simp only [List.map_toArray, List.map_cons, List.map_nil]); first | done | rfl | (simp only [List.length_drop, List.length_take]; rfl)) ?_; (with_reducible refine (colonnaderef01_Pow10.calls kj3 (wrap64 (a1 - a2)) t338 t339 _ A17.out).mono ?_); rintro e w' ⟨rfl, ⟨nd, rfl⟩⟩; refine ⟨_, rfl, ?_⟩) | ((with_reducible refine gate_callee (f := 62) rfl ?_); refine goesL_ (some 65) rfl rfl Tryd.func62 (by kernel_rfl) rfl #[.int .i64 a0] rfl (by (try simp only [List.map_toArray, List.map_cons, List.map_nil]); first | done | rfl | (simp only [List.length_drop, List.length_take]; rfl)) ?_; (with_reducible refine (colonnaderef01_amount.calls a0 t340 _ A18.out).mono ?_); rintro e w' ⟨rfl, ⟨nd, rfl⟩⟩; refine ⟨_, rfl, ?_⟩) | ((with_reducible refine gate_callee (f := 66) rfl ?_); refine goesL_ (some 83) rfl rfl Tryd.func66 (by kernel_rfl) rfl #[.int .u64 (IntKind.u64.wrap (Int.tdiv t340 (IntKind.u64.wrap (t338)))), .bool (decide (a0 < 0))] rfl (by (try simp only [List.map_toArray, List.map_cons, List.map_nil]); first | done | rfl | (simp only [List.length_drop, List.length_take]; rfl)) ?_; (with_reducible refine (colonnaderef01_signed.calls kj3 (IntKind.u64.wrap (Int.tdiv t340 (IntKind.u64.wrap (t338)))) (decide (a0 < 0)) t343 t344 _ A22.out).mono ?_); rintro e w' ⟨rfl, ⟨nd, rfl⟩⟩; refine ⟨_, rfl, ?_⟩))
                go_ret2
                exact ⟨by first | rfl | (simp; done) | (simp [*]; done), by repeat (first | exact Drawn0.refl _ | apply Drawn0.step)⟩
        · replace c10 := Bool.eq_false_iff.mpr c10
          subst c10
          have H1 : (some (0, 10)) = some (r1, r2) := by rw [if_neg (show ¬ (false = true) by decide)] at H; exact H
          clear H
          have H := H1
          clear H1
          simp only [Option.some.injEq, Prod.mk.injEq] at H
          obtain ⟨rfl, rfl⟩ := H
          go_wp2_with (first | ((with_reducible refine gate_callee (f := 50) rfl ?_); refine goesL_ (some 31) rfl rfl Tryd.func50 (by kernel_rfl) rfl #[.int .i64 a0] rfl (by (try simp only [List.map_toArray, List.map_cons, List.map_nil]); first | done | rfl | (simp only [List.length_drop, List.length_take]; rfl)) ?_; (with_reducible refine (colonnaderef01_Fits.calls a0 false _ A9.out).mono ?_); rintro e w' ⟨rfl, ⟨nd, rfl⟩⟩; refine ⟨_, rfl, ?_⟩))
          go_ret2
          exact ⟨by first | rfl | (simp; done) | (simp [*]; done), by repeat (first | exact Drawn0.refl _ | apply Drawn0.step)⟩

end Go.Proofs.YtmjpdhledcfjaaaDoor.R
