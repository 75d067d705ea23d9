/- PRINTED BY A PROGRAM OF THIS SESSION (px.py, over the kit's print): Lean functions with the answers of Go functions of the given program, and proofs that the Go code comes to these answers; each under the conditions that its theorem states. -/
import Derived.Test.YtmeopdjdjmjngaaGreatDoorF0
import Derived.Test.YtmeopdjdjmjngaaGreatDoorF4
namespace Go.Proofs.YtmeopdjdjmjngaaGreatDoor.F
open Go.RowKit Go.Proofs.YtmeopdjdjmjngaaGreatDoorW.PrintWords Go.Proofs.YtmeopdjdjmjngaaGreatDoorW.PrintLast Go.Proofs.YtmeopdjdjmjngaaGreatDoorW.PrintMore
attribute [local go_sem] max2_int min2_int max_two min_two max_three min_three max_four min_four   -- for this text's walks alone
set_option linter.unusedVariables false
set_option linter.unusedSimpArgs false
theorem zF5_0 {P : Prop} (h : P := by (try simp only [List.map_toArray, List.map_cons, List.map_nil]); first | done | rfl | (simp only [List.length_drop, List.length_take]; rfl)) : P := h
theorem zF5_1 {P : Prop} (h : P := by repeat (first | (with_reducible first | exact HB.out | apply below_alloc | apply pw_below_drewN | apply below_drew1) | exact HB.out)) : P := h
theorem zF5_2 {P : Prop} (h : P := by kernel_rfl) : P := h
theorem zF5_3 {P : Prop} (h : P := by first | rfl | (simp; done) | (simp [*]; done)) : P := h

/-! ### colonnaderef01_Scale: function 91 -/
def colonnaderef01_Scale.j0 : Nat → Int → Int → Int → Bool → Option (Int × Int)
 | 0, _, _, _, _ => none
 | k + 1, x0, x1, x2, x29 => if x29 = true then (some (0, 1)) else ((colonnaderef01_Fits.f x0).bind fun t203 => (if t203 = true then (if x2 ≥ x1 then ((colonnaderef01_Pow10.f k (wrap64 (x2 - x1))).bind fun bt204 => ((colonnaderef01_Mul.f k x0 bt204.1).bind fun bt206 => (if bt206.2 = 0 then ((colonnaderef01_Fits.f bt206.1).bind fun t208 => (if t208 = true then (some (bt206.1, 0)) else (some (0, 10)))) else (some (0, 10))))) else ((colonnaderef01_Pow10.f k (wrap64 (x1 - x2))).bind fun bt209 => ((colonnaderef01_amount.f x0).bind fun t211 => (if (IntKind.u64.wrap (bt209.1)) = 0 then (none) else (if (IntKind.u64.wrap (2 * (Int.tmod t211 (IntKind.u64.wrap (bt209.1))))) ≥ (IntKind.u64.wrap (bt209.1)) then ((colonnaderef01_signed.f k (IntKind.u64.wrap ((IntKind.u64.wrap (Int.tdiv t211 (IntKind.u64.wrap (bt209.1)))) + 1)) (decide (x0 < 0))).bind fun bt212 => (some (bt212.1, bt212.2))) else ((colonnaderef01_signed.f k (IntKind.u64.wrap (Int.tdiv t211 (IntKind.u64.wrap (bt209.1)))) (decide (x0 < 0))).bind fun bt214 => (some (bt214.1, bt214.2)))))))) else (some (0, 10))))
def colonnaderef01_Scale.f (k : Nat) (a0 : Int) (a1 : Int) (a2 : Int) : Option (Int × Int) := if a1 < 0 then (colonnaderef01_Scale.j0 k a0 a1 a2 true) else (if a1 > 18 then (colonnaderef01_Scale.j0 k a0 a1 a2 true) else (if a2 < 0 then (colonnaderef01_Scale.j0 k a0 a1 a2 true) else (colonnaderef01_Scale.j0 k a0 a1 a2 (decide (a2 > 18)))))
theorem colonnaderef01_Scale.mono_l : ∀ k, (∀ y0 y1 y2 y3, LeO (colonnaderef01_Scale.j0 k y0 y1 y2 y3) (colonnaderef01_Scale.j0 (k + 1) y0 y1 y2 y3))
 | 0 => fun _ _ _ _ r h => by simp [colonnaderef01_Scale.j0] at h
 | k + 1 => by
  have ih0 := colonnaderef01_Scale.mono_l k
  ·intro y0 y1 y2 y3
   unfold colonnaderef01_Scale.j0
   repeat' first
   | (with_reducible exact ih0 _ _ _ _)
   | (with_reducible exact colonnaderef01_Mul.mono _ _ _)
   | (with_reducible exact colonnaderef01_Pow10.mono _ _)
   | (with_reducible exact colonnaderef01_signed.mono _ _ _)
   | (with_reducible exact LeO.refl _)
   | (with_reducible exact LeO.none _)
   | (with_reducible refine LeO.ite ?_ ?_)
   | (with_reducible refine LeO.bind ?_ (fun _ => ?_))
   | exact ih0 _ _ _ _
   | exact colonnaderef01_Mul.mono _ _ _
   | exact colonnaderef01_Pow10.mono _ _
   | exact colonnaderef01_signed.mono _ _ _
   | exact LeO.none _
   | refine LeO.ite ?_ ?_
   | refine LeO.bind ?_ (fun _ => ?_)
theorem colonnaderef01_Scale.mono : ∀ a0 a1 a2 k, LeO (colonnaderef01_Scale.f k a0 a1 a2) (colonnaderef01_Scale.f (k + 1) a0 a1 a2) := by
 intro a0 a1 a2 k
 have ih0 := colonnaderef01_Scale.mono_l k
 unfold colonnaderef01_Scale.f
 repeat' first
   | (with_reducible exact ih0 _ _ _ _)
   | (with_reducible exact colonnaderef01_Mul.mono _ _ _)
   | (with_reducible exact colonnaderef01_Pow10.mono _ _)
   | (with_reducible exact colonnaderef01_signed.mono _ _ _)
   | (with_reducible exact LeO.refl _)
   | (with_reducible exact LeO.none _)
   | (with_reducible refine LeO.ite ?_ ?_)
   | (with_reducible refine LeO.bind ?_ (fun _ => ?_))
   | exact ih0 _ _ _ _
   | exact colonnaderef01_Mul.mono _ _ _
   | exact colonnaderef01_Pow10.mono _ _
   | exact colonnaderef01_signed.mono _ _ _
   | exact LeO.none _
   | refine LeO.ite ?_ ?_
   | refine LeO.bind ?_ (fun _ => ?_)
set_option maxHeartbeats 8000000 in
set_option maxRecDepth 100000 in
theorem colonnaderef01_Scale.calls (k : Nat) (a0 : Int) (a1 : Int) (a2 : Int) (r1 : Int) (r2 : Int) (w : World) (h : colonnaderef01_Scale.f k a0 a1 a2 = some (r1, r2)) :
  Calls Tryz.prog 91 #[.int .i64 a0, .int .i64 a1, .int .i64 a2] w fun e w' => e = .returned (.tuple #[.int .i64 r1, .int .i64 r2]) ∧ Drawn0 w w' := by
 have H : (if a1 < 0 then (colonnaderef01_Scale.j0 k a0 a1 a2 true) else (if a1 > 18 then (colonnaderef01_Scale.j0 k a0 a1 a2 true) else (if a2 < 0 then (colonnaderef01_Scale.j0 k a0 a1 a2 true) else (colonnaderef01_Scale.j0 k a0 a1 a2 (decide (a2 > 18)))))) = some (r1, r2) := h
 clear h
 have HC4 := Aside0.mk H
 clear H
 go_enter Tryz.func91, Tryz.ntmps91
 go_upto_region 1 with (fail)
 go_cut [29] (fun v29 wc => ∃ (kq : Nat) (x29_3 : Bool), v29 = .bool x29_3 ∧ Aside0 (colonnaderef01_Scale.j0 kq a0 a1 a2 x29_3 = some (r1, r2)) ∧ Aside0 (kq ≤ k) ∧ Drawn0 w wc)
 case first =>
  have H := HC4.out
  clear HC4
  by_cases c5 : a1 < 0
  ·rw [if_pos c5] at H
   have c5b0 : decide (a1 < 0) = true := decide_eq_true c5
   clear c5
   (first | rw [c5b0] | (simp only [i64_w, i32_w]; rw [c5b0]) | skip)
   have H' := Aside0.mk H
   clear H
   go_wp2
   go_meet
   case rel => exact ⟨_, (true), zF5_3, H', ⟨by first | omega | exact Nat.le_refl _⟩, by repeat (first | exact Drawn0.refl _ | apply Drawn0.step)⟩
  ·rw [if_neg c5] at H
   have c5b0 : decide (a1 < 0) = false := decide_eq_false c5
   clear c5
   (first | rw [c5b0] | (simp only [i64_w, i32_w]; rw [c5b0]) | skip)
   by_cases c6 : a1 > 18
   ·rw [if_pos c6] at H
    have c6b0 : decide (18 < a1) = true := decide_eq_true c6
    clear c6
    have H' := Aside0.mk H
    clear H
    go_wp2
    go_meet
    case rel => exact ⟨_, (true), zF5_3, H', ⟨by first | omega | exact Nat.le_refl _⟩, by repeat (first | exact Drawn0.refl _ | apply Drawn0.step)⟩
   ·rw [if_neg c6] at H
    have c6b0 : decide (18 < a1) = false := decide_eq_false c6
    clear c6
    by_cases c7 : a2 < 0
    ·rw [if_pos c7] at H
     have c7b0 : decide (a2 < 0) = true := decide_eq_true c7
     clear c7
     have H' := Aside0.mk H
     clear H
     go_wp2
     go_meet
     case rel => exact ⟨_, (true), zF5_3, H', ⟨by first | omega | exact Nat.le_refl _⟩, by repeat (first | exact Drawn0.refl _ | apply Drawn0.step)⟩
    ·rw [if_neg c7] at H
     have c7b0 : decide (a2 < 0) = false := decide_eq_false c7
     clear c7
     have H' := Aside0.mk H
     clear H
     go_wp2
     go_meet
     case rel => exact ⟨_, (decide (a2 > 18)), zF5_3, H', ⟨by first | omega | exact Nat.le_refl _⟩, by repeat (first | exact Drawn0.refl _ | apply Drawn0.step)⟩
 case rest =>
  clear HC4
  obtain ⟨kq, x29_3, rfl, HA, HJ3, ⟨mc3, rfl⟩⟩ := hcut
  cases kq with
  | zero => exact absurd HA.out (by simp [colonnaderef01_Scale.j0])
  | succ kj3 =>
   have H := HA.out
   clear HA
   simp only [colonnaderef01_Scale.j0] at H
   by_cases c8 : x29_3 = true
   ·subst c8
    have H1 : (some (0, 1)) = some (r1, r2) := by rw [if_pos rfl] at H; exact H
    clear H
    have H := H1
    clear H1
    simp only [Option.some.injEq, Prod.mk.injEq] at H
    obtain ⟨rfl, rfl⟩ := H
    go_wp2
    go_ret2
    exact ⟨by first | rfl | (simp; done) | (simp [*]; done), by repeat (first | exact Drawn0.refl _ | apply Drawn0.step)⟩
   ·replace c8 := Bool.eq_false_iff.mpr c8
    subst c8
    have H1 : ((colonnaderef01_Fits.f a0).bind fun t203 => (if t203 = true then (if a2 ≥ a1 then ((colonnaderef01_Pow10.f kj3 (wrap64 (a2 - a1))).bind fun bt204 => ((colonnaderef01_Mul.f kj3 a0 bt204.1).bind fun bt206 => (if bt206.2 = 0 then ((colonnaderef01_Fits.f bt206.1).bind fun t208 => (if t208 = true then (some (bt206.1, 0)) else (some (0, 10)))) else (some (0, 10))))) else ((colonnaderef01_Pow10.f kj3 (wrap64 (a1 - a2))).bind fun bt209 => ((colonnaderef01_amount.f a0).bind fun t211 => (if (IntKind.u64.wrap (bt209.1)) = 0 then (none) else (if (IntKind.u64.wrap (2 * (Int.tmod t211 (IntKind.u64.wrap (bt209.1))))) ≥ (IntKind.u64.wrap (bt209.1)) then ((colonnaderef01_signed.f kj3 (IntKind.u64.wrap ((IntKind.u64.wrap (Int.tdiv t211 (IntKind.u64.wrap (bt209.1)))) + 1)) (decide (a0 < 0))).bind fun bt212 => (some (bt212.1, bt212.2))) else ((colonnaderef01_signed.f kj3 (IntKind.u64.wrap (Int.tdiv t211 (IntKind.u64.wrap (bt209.1)))) (decide (a0 < 0))).bind fun bt214 => (some (bt214.1, bt214.2)))))))) else (some (0, 10)))) = some (r1, r2) := by rw [if_neg (show ¬ (false = true) by decide)] at H; exact H
    clear H
    have H := H1
    clear H1
    replace H := Option.bind_eq_some_iff.mp H
    obtain ⟨t203, A90, H⟩ := H
    replace H : (if t203 = true then (if a2 ≥ a1 then ((colonnaderef01_Pow10.f kj3 (wrap64 (a2 - a1))).bind fun bt204 => ((colonnaderef01_Mul.f kj3 a0 bt204.1).bind fun bt206 => (if bt206.2 = 0 then ((colonnaderef01_Fits.f bt206.1).bind fun t208 => (if t208 = true then (some (bt206.1, 0)) else (some (0, 10)))) else (some (0, 10))))) else ((colonnaderef01_Pow10.f kj3 (wrap64 (a1 - a2))).bind fun bt209 => ((colonnaderef01_amount.f a0).bind fun t211 => (if (IntKind.u64.wrap (bt209.1)) = 0 then (none) else (if (IntKind.u64.wrap (2 * (Int.tmod t211 (IntKind.u64.wrap (bt209.1))))) ≥ (IntKind.u64.wrap (bt209.1)) then ((colonnaderef01_signed.f kj3 (IntKind.u64.wrap ((IntKind.u64.wrap (Int.tdiv t211 (IntKind.u64.wrap (bt209.1)))) + 1)) (decide (a0 < 0))).bind fun bt212 => (some (bt212.1, bt212.2))) else ((colonnaderef01_signed.f kj3 (IntKind.u64.wrap (Int.tdiv t211 (IntKind.u64.wrap (bt209.1)))) (decide (a0 < 0))).bind fun bt214 => (some (bt214.1, bt214.2)))))))) else (some (0, 10))) = some (r1, r2) := H
    have A9 := Aside0.mk A90
    clear A90
    by_cases c10 : t203 = true
    ·subst c10
     have H1 : (if a2 ≥ a1 then ((colonnaderef01_Pow10.f kj3 (wrap64 (a2 - a1))).bind fun bt204 => ((colonnaderef01_Mul.f kj3 a0 bt204.1).bind fun bt206 => (if bt206.2 = 0 then ((colonnaderef01_Fits.f bt206.1).bind fun t208 => (if t208 = true then (some (bt206.1, 0)) else (some (0, 10)))) else (some (0, 10))))) else ((colonnaderef01_Pow10.f kj3 (wrap64 (a1 - a2))).bind fun bt209 => ((colonnaderef01_amount.f a0).bind fun t211 => (if (IntKind.u64.wrap (bt209.1)) = 0 then (none) else (if (IntKind.u64.wrap (2 * (Int.tmod t211 (IntKind.u64.wrap (bt209.1))))) ≥ (IntKind.u64.wrap (bt209.1)) then ((colonnaderef01_signed.f kj3 (IntKind.u64.wrap ((IntKind.u64.wrap (Int.tdiv t211 (IntKind.u64.wrap (bt209.1)))) + 1)) (decide (a0 < 0))).bind fun bt212 => (some (bt212.1, bt212.2))) else ((colonnaderef01_signed.f kj3 (IntKind.u64.wrap (Int.tdiv t211 (IntKind.u64.wrap (bt209.1)))) (decide (a0 < 0))).bind fun bt214 => (some (bt214.1, bt214.2)))))))) = some (r1, r2) := by rw [if_pos rfl] at H; exact H
     clear H
     have H := H1
     clear H1
     by_cases c11 : a2 ≥ a1
     ·rw [if_pos c11] at H
      have c11b0 : decide (a1 ≤ a2) = true := decide_eq_true c11
      clear c11
      replace H := Option.bind_eq_some_iff.mp H
      obtain ⟨⟨t204, t205⟩, A120, H⟩ := H
      replace H : ((colonnaderef01_Mul.f kj3 a0 t204).bind fun bt206 => (if bt206.2 = 0 then ((colonnaderef01_Fits.f bt206.1).bind fun t208 => (if t208 = true then (some (bt206.1, 0)) else (some (0, 10)))) else (some (0, 10)))) = some (r1, r2) := H
      have A12 := Aside0.mk A120
      clear A120
      replace H := Option.bind_eq_some_iff.mp H
      obtain ⟨⟨t206, t207⟩, A130, H⟩ := H
      replace H : (if t207 = 0 then ((colonnaderef01_Fits.f t206).bind fun t208 => (if t208 = true then (some (t206, 0)) else (some (0, 10)))) else (some (0, 10))) = some (r1, r2) := H
      have A13 := Aside0.mk A130
      clear A130
      by_cases c14 : t207 = 0
      ·rw [if_pos c14] at H
       have c14b0 : (t207 == 0) = true := beq_iff_eq.mpr c14
       have c14b1 : (t207 != 0) = false := bne_eq_false_iff_eq.mpr c14
       clear c14
       replace H := Option.bind_eq_some_iff.mp H
       obtain ⟨t208, A150, H⟩ := H
       replace H : (if t208 = true then (some (t206, 0)) else (some (0, 10))) = some (r1, r2) := H
       have A15 := Aside0.mk A150
       clear A150
       by_cases c16 : t208 = true
       ·subst c16
        have H1 : (some (t206, 0)) = some (r1, r2) := by rw [if_pos rfl] at H; exact H
        clear H
        have H := H1
        clear H1
        simp only [Option.some.injEq, Prod.mk.injEq] at H
        obtain ⟨rfl, rfl⟩ := H
        go_wp2_with (first | ((with_reducible refine gate_callee (f := 55) rfl ?_); refine goesL_ (some 31) rfl rfl Tryz.func55 zF5_2 rfl #[.int .i64 a0] rfl zF5_0 ?_; (with_reducible refine (colonnaderef01_Fits.calls a0 true _ A9.out).mono ?_); rintro e w' ⟨rfl, ⟨nd, rfl⟩⟩; refine ⟨_, rfl, ?_⟩) | ((with_reducible refine gate_callee (f := 138) rfl ?_); refine goesL_ (some 40) rfl rfl Tryz.func138 zF5_2 rfl #[.int .i64 (wrap64 (a2 - a1))] rfl zF5_0 ?_; (with_reducible refine (colonnaderef01_Pow10.calls kj3 (wrap64 (a2 - a1)) t204 t205 _ A12.out).mono ?_); rintro e w' ⟨rfl, ⟨nd, rfl⟩⟩; refine ⟨_, rfl, ?_⟩) | ((with_reducible refine gate_callee (f := 139) rfl ?_); refine goesL_ (some 46) rfl rfl Tryz.func139 zF5_2 rfl #[.int .i64 a0, .int .i64 t204] rfl zF5_0 ?_; (with_reducible refine (colonnaderef01_Mul.calls kj3 a0 t204 t206 t207 _ A13.out).mono ?_); rintro e w' ⟨rfl, ⟨nd, rfl⟩⟩; refine ⟨_, rfl, ?_⟩) | (go_at_call 55; (with_reducible refine (colonnaderef01_Fits.calls t206 true _ A15.out).mono ?_); rintro e w' ⟨rfl, ⟨nd, rfl⟩⟩))
        go_ret2
        exact ⟨by first | rfl | (simp; done) | (simp [*]; done), by repeat (first | exact Drawn0.refl _ | apply Drawn0.step)⟩
       ·replace c16 := Bool.eq_false_iff.mpr c16
        subst c16
        have H1 : (some (0, 10)) = some (r1, r2) := by rw [if_neg (show ¬ (false = true) by decide)] at H; exact H
        clear H
        have H := H1
        clear H1
        simp only [Option.some.injEq, Prod.mk.injEq] at H
        obtain ⟨rfl, rfl⟩ := H
        go_wp2_with (first | ((with_reducible refine gate_callee (f := 55) rfl ?_); refine goesL_ (some 31) rfl rfl Tryz.func55 zF5_2 rfl #[.int .i64 a0] rfl zF5_0 ?_; (with_reducible refine (colonnaderef01_Fits.calls a0 true _ A9.out).mono ?_); rintro e w' ⟨rfl, ⟨nd, rfl⟩⟩; refine ⟨_, rfl, ?_⟩) | ((with_reducible refine gate_callee (f := 138) rfl ?_); refine goesL_ (some 40) rfl rfl Tryz.func138 zF5_2 rfl #[.int .i64 (wrap64 (a2 - a1))] rfl zF5_0 ?_; (with_reducible refine (colonnaderef01_Pow10.calls kj3 (wrap64 (a2 - a1)) t204 t205 _ A12.out).mono ?_); rintro e w' ⟨rfl, ⟨nd, rfl⟩⟩; refine ⟨_, rfl, ?_⟩) | ((with_reducible refine gate_callee (f := 139) rfl ?_); refine goesL_ (some 46) rfl rfl Tryz.func139 zF5_2 rfl #[.int .i64 a0, .int .i64 t204] rfl zF5_0 ?_; (with_reducible refine (colonnaderef01_Mul.calls kj3 a0 t204 t206 t207 _ A13.out).mono ?_); rintro e w' ⟨rfl, ⟨nd, rfl⟩⟩; refine ⟨_, rfl, ?_⟩) | (go_at_call 55; (with_reducible refine (colonnaderef01_Fits.calls t206 false _ A15.out).mono ?_); rintro e w' ⟨rfl, ⟨nd, rfl⟩⟩))
        go_ret2
        exact ⟨by first | rfl | (simp; done) | (simp [*]; done), by repeat (first | exact Drawn0.refl _ | apply Drawn0.step)⟩
      ·rw [if_neg c14] at H
       have c14b0 : (t207 == 0) = false := beq_eq_false_iff_ne.mpr c14
       have c14b1 : (t207 != 0) = true := bne_iff_ne.mpr c14
       simp only [Option.some.injEq, Prod.mk.injEq] at H
       obtain ⟨rfl, rfl⟩ := H
       go_wp2_with (first | ((with_reducible refine gate_callee (f := 55) rfl ?_); refine goesL_ (some 31) rfl rfl Tryz.func55 zF5_2 rfl #[.int .i64 a0] rfl zF5_0 ?_; (with_reducible refine (colonnaderef01_Fits.calls a0 true _ A9.out).mono ?_); rintro e w' ⟨rfl, ⟨nd, rfl⟩⟩; refine ⟨_, rfl, ?_⟩) | ((with_reducible refine gate_callee (f := 138) rfl ?_); refine goesL_ (some 40) rfl rfl Tryz.func138 zF5_2 rfl #[.int .i64 (wrap64 (a2 - a1))] rfl zF5_0 ?_; (with_reducible refine (colonnaderef01_Pow10.calls kj3 (wrap64 (a2 - a1)) t204 t205 _ A12.out).mono ?_); rintro e w' ⟨rfl, ⟨nd, rfl⟩⟩; refine ⟨_, rfl, ?_⟩) | ((with_reducible refine gate_callee (f := 139) rfl ?_); refine goesL_ (some 46) rfl rfl Tryz.func139 zF5_2 rfl #[.int .i64 a0, .int .i64 t204] rfl zF5_0 ?_; (with_reducible refine (colonnaderef01_Mul.calls kj3 a0 t204 t206 t207 _ A13.out).mono ?_); rintro e w' ⟨rfl, ⟨nd, rfl⟩⟩; refine ⟨_, rfl, ?_⟩))
       go_ret2
       exact ⟨by first | rfl | (simp; done) | (simp [*]; done), by repeat (first | exact Drawn0.refl _ | apply Drawn0.step)⟩
     ·rw [if_neg c11] at H
      have c11b0 : decide (a1 ≤ a2) = false := decide_eq_false c11
      clear c11
      replace H := Option.bind_eq_some_iff.mp H
      obtain ⟨⟨t209, t210⟩, A170, H⟩ := H
      replace H : ((colonnaderef01_amount.f a0).bind fun t211 => (if (IntKind.u64.wrap (t209)) = 0 then (none) else (if (IntKind.u64.wrap (2 * (Int.tmod t211 (IntKind.u64.wrap (t209))))) ≥ (IntKind.u64.wrap (t209)) then ((colonnaderef01_signed.f kj3 (IntKind.u64.wrap ((IntKind.u64.wrap (Int.tdiv t211 (IntKind.u64.wrap (t209)))) + 1)) (decide (a0 < 0))).bind fun bt212 => (some (bt212.1, bt212.2))) else ((colonnaderef01_signed.f kj3 (IntKind.u64.wrap (Int.tdiv t211 (IntKind.u64.wrap (t209)))) (decide (a0 < 0))).bind fun bt214 => (some (bt214.1, bt214.2)))))) = some (r1, r2) := H
      have A17 := Aside0.mk A170
      clear A170
      replace H := Option.bind_eq_some_iff.mp H
      obtain ⟨t211, A180, H⟩ := H
      replace H : (if (IntKind.u64.wrap (t209)) = 0 then (none) else (if (IntKind.u64.wrap (2 * (Int.tmod t211 (IntKind.u64.wrap (t209))))) ≥ (IntKind.u64.wrap (t209)) then ((colonnaderef01_signed.f kj3 (IntKind.u64.wrap ((IntKind.u64.wrap (Int.tdiv t211 (IntKind.u64.wrap (t209)))) + 1)) (decide (a0 < 0))).bind fun bt212 => (some (bt212.1, bt212.2))) else ((colonnaderef01_signed.f kj3 (IntKind.u64.wrap (Int.tdiv t211 (IntKind.u64.wrap (t209)))) (decide (a0 < 0))).bind fun bt214 => (some (bt214.1, bt214.2))))) = some (r1, r2) := H
      have A18 := Aside0.mk A180
      clear A180
      by_cases c19 : (IntKind.u64.wrap (t209)) = 0
      ·rw [if_pos c19] at H
       exact absurd H (by simp)
      ·rw [if_neg c19] at H
       have c19b0 : ((IntKind.u64.wrap (t209)) == 0) = false := beq_eq_false_iff_ne.mpr c19
       have c19b1 : ((IntKind.u64.wrap (t209)) != 0) = true := bne_iff_ne.mpr c19
       by_cases c20 : (IntKind.u64.wrap (2 * (Int.tmod t211 (IntKind.u64.wrap (t209))))) ≥ (IntKind.u64.wrap (t209))
       ·rw [if_pos c20] at H
        have c20b0 : decide ((IntKind.u64.wrap (t209)) ≤ (IntKind.u64.wrap (2 * (Int.tmod t211 (IntKind.u64.wrap (t209)))))) = true := decide_eq_true c20
        clear c20
        replace H := Option.bind_eq_some_iff.mp H
        obtain ⟨⟨t212, t213⟩, A210, H⟩ := H
        replace H : (some (t212, t213)) = some (r1, r2) := H
        have A21 := Aside0.mk A210
        clear A210
        simp only [Option.some.injEq, Prod.mk.injEq] at H
        obtain ⟨rfl, rfl⟩ := H
        go_wp2_with (first | ((with_reducible refine gate_callee (f := 55) rfl ?_); refine goesL_ (some 31) rfl rfl Tryz.func55 zF5_2 rfl #[.int .i64 a0] rfl zF5_0 ?_; (with_reducible refine (colonnaderef01_Fits.calls a0 true _ A9.out).mono ?_); rintro e w' ⟨rfl, ⟨nd, rfl⟩⟩; refine ⟨_, rfl, ?_⟩) | ((with_reducible refine gate_callee (f := 138) rfl ?_); refine goesL_ (some 61) rfl rfl Tryz.func138 zF5_2 rfl #[.int .i64 (wrap64 (a1 - a2))] rfl zF5_0 ?_; (with_reducible refine (colonnaderef01_Pow10.calls kj3 (wrap64 (a1 - a2)) t209 t210 _ A17.out).mono ?_); rintro e w' ⟨rfl, ⟨nd, rfl⟩⟩; refine ⟨_, rfl, ?_⟩) | ((with_reducible refine gate_callee (f := 95) rfl ?_); refine goesL_ (some 65) rfl rfl Tryz.func95 zF5_2 rfl #[.int .i64 a0] rfl zF5_0 ?_; (with_reducible refine (colonnaderef01_amount.calls a0 t211 _ A18.out).mono ?_); rintro e w' ⟨rfl, ⟨nd, rfl⟩⟩; refine ⟨_, rfl, ?_⟩) | ((with_reducible refine gate_callee (f := 140) rfl ?_); refine goesL_ (some 83) rfl rfl Tryz.func140 zF5_2 rfl #[.int .u64 (IntKind.u64.wrap ((IntKind.u64.wrap (Int.tdiv t211 (IntKind.u64.wrap (t209)))) + 1)), .bool (decide (a0 < 0))] rfl zF5_0 ?_; (with_reducible refine (colonnaderef01_signed.calls kj3 (IntKind.u64.wrap ((IntKind.u64.wrap (Int.tdiv t211 (IntKind.u64.wrap (t209)))) + 1)) (decide (a0 < 0)) t212 t213 _ A21.out).mono ?_); rintro e w' ⟨rfl, ⟨nd, rfl⟩⟩; refine ⟨_, rfl, ?_⟩))
        go_ret2
        exact ⟨by first | rfl | (simp; done) | (simp [*]; done), by repeat (first | exact Drawn0.refl _ | apply Drawn0.step)⟩
       ·rw [if_neg c20] at H
        have c20b0 : decide ((IntKind.u64.wrap (t209)) ≤ (IntKind.u64.wrap (2 * (Int.tmod t211 (IntKind.u64.wrap (t209)))))) = false := decide_eq_false c20
        clear c20
        replace H := Option.bind_eq_some_iff.mp H
        obtain ⟨⟨t214, t215⟩, A220, H⟩ := H
        replace H : (some (t214, t215)) = some (r1, r2) := H
        have A22 := Aside0.mk A220
        clear A220
        simp only [Option.some.injEq, Prod.mk.injEq] at H
        obtain ⟨rfl, rfl⟩ := H
        go_wp2_with (first | ((with_reducible refine gate_callee (f := 55) rfl ?_); refine goesL_ (some 31) rfl rfl Tryz.func55 zF5_2 rfl #[.int .i64 a0] rfl zF5_0 ?_; (with_reducible refine (colonnaderef01_Fits.calls a0 true _ A9.out).mono ?_); rintro e w' ⟨rfl, ⟨nd, rfl⟩⟩; refine ⟨_, rfl, ?_⟩) | ((with_reducible refine gate_callee (f := 138) rfl ?_); refine goesL_ (some 61) rfl rfl Tryz.func138 zF5_2 rfl #[.int .i64 (wrap64 (a1 - a2))] rfl zF5_0 ?_; (with_reducible refine (colonnaderef01_Pow10.calls kj3 (wrap64 (a1 - a2)) t209 t210 _ A17.out).mono ?_); rintro e w' ⟨rfl, ⟨nd, rfl⟩⟩; refine ⟨_, rfl, ?_⟩) | ((with_reducible refine gate_callee (f := 95) rfl ?_); refine goesL_ (some 65) rfl rfl Tryz.func95 zF5_2 rfl #[.int .i64 a0] rfl zF5_0 ?_; (with_reducible refine (colonnaderef01_amount.calls a0 t211 _ A18.out).mono ?_); rintro e w' ⟨rfl, ⟨nd, rfl⟩⟩; refine ⟨_, rfl, ?_⟩) | ((with_reducible refine gate_callee (f := 140) rfl ?_); refine goesL_ (some 83) rfl rfl Tryz.func140 zF5_2 rfl #[.int .u64 (IntKind.u64.wrap (Int.tdiv t211 (IntKind.u64.wrap (t209)))), .bool (decide (a0 < 0))] rfl zF5_0 ?_; (with_reducible refine (colonnaderef01_signed.calls kj3 (IntKind.u64.wrap (Int.tdiv t211 (IntKind.u64.wrap (t209)))) (decide (a0 < 0)) t214 t215 _ A22.out).mono ?_); rintro e w' ⟨rfl, ⟨nd, rfl⟩⟩; refine ⟨_, rfl, ?_⟩))
        go_ret2
        exact ⟨by first | rfl | (simp; done) | (simp [*]; done), by repeat (first | exact Drawn0.refl _ | apply Drawn0.step)⟩
    ·replace c10 := Bool.eq_false_iff.mpr c10
     subst c10
     have H1 : (some (0, 10)) = some (r1, r2) := by rw [if_neg (show ¬ (false = true) by decide)] at H; exact H
     clear H
     have H := H1
     clear H1
     simp only [Option.some.injEq, Prod.mk.injEq] at H
     obtain ⟨rfl, rfl⟩ := H
     go_wp2_with (first | ((with_reducible refine gate_callee (f := 55) rfl ?_); refine goesL_ (some 31) rfl rfl Tryz.func55 zF5_2 rfl #[.int .i64 a0] rfl zF5_0 ?_; (with_reducible refine (colonnaderef01_Fits.calls a0 false _ A9.out).mono ?_); rintro e w' ⟨rfl, ⟨nd, rfl⟩⟩; refine ⟨_, rfl, ?_⟩))
     go_ret2
     exact ⟨by first | rfl | (simp; done) | (simp [*]; done), by repeat (first | exact Drawn0.refl _ | apply Drawn0.step)⟩

/-! ### colonnaderef02_scale: function 92 -/
def colonnaderef02_scale.f (a0_0 : Int) (a0_1 : Int) (a0_2 : Bool) (a0_3 : Int) (a0_4 : ByteArray) : Option (Int) := if a0_0 = 3 then (some (mn (mx a0_1 0) 18)) else (some 0)
set_option maxHeartbeats 8000000 in
set_option maxRecDepth 100000 in
theorem colonnaderef02_scale.calls (a0_0 : Int) (a0_1 : Int) (a0_2 : Bool) (a0_3 : Int) (a0_4 : ByteArray) (r : Int) (w : World) (h : colonnaderef02_scale.f a0_0 a0_1 a0_2 a0_3 a0_4 = some r) :
  Calls Tryz.prog 92 #[.agg #[.int .i64 a0_0, .int .i64 a0_1, .bool a0_2, .int .i64 a0_3, .string a0_4]] w fun e w' => e = .returned (.int .i64 r) ∧ Below w.heap.size w w' := by
 have hu41 := Tryz.underlying41
 have HB := Aside0.mk (Below.refl w.heap.size w)
 have HF_ := Aside0.mk h
 clear h
 go_enter Tryz.func92, Tryz.ntmps92
 go_upto_region 1 with (first | ((with_reducible refine gate_dst (N := 1) rfl ?_); refine box_event ?hg (N := 1) ?hd (cs := #[.int .i64 a0_0, .int .i64 a0_1, .bool a0_2, .int .i64 a0_3, .string a0_4]) (t := 41) ?hr ?_; (case hd => rfl); (case hg => rfl); (case hr => first | (go_simp; done) | (go_simp; rfl)); intro gb216 hg w5 hbox hb; have n0_ := Aside0.mk (below_step zF5_1 hb); have n1_ := Aside0.mk (hbox); have n2_ := Aside0.mk ((by rw [hg]; exact (below_size zF5_1) : w.heap.size ≤ gb216)); have n3_ := Aside0.mk ((by rw [hg]; exact (below_size zF5_1) : w.heap.size ≤ gb216)); clear HB; have HB := n0_; have BK216 := n1_; have GW216 := n2_; have GE216 := n3_; clear n0_ n1_ n2_ n3_; clear hb hbox hg; have hcz6_0 : w5.cell? ⟨gb216, 0, none⟩ = some (.int .i64 a0_0) := (blk_cell BK216.out 0).trans rfl; have hcz6_1 : w5.cell? ⟨gb216, 1, none⟩ = some (.int .i64 a0_1) := (blk_cell BK216.out 1).trans rfl; have hcz6_2 : w5.cell? ⟨gb216, 2, none⟩ = some (.bool a0_2) := (blk_cell BK216.out 2).trans rfl; have hcz6_3 : w5.cell? ⟨gb216, 3, none⟩ = some (.int .i64 a0_3) := (blk_cell BK216.out 3).trans rfl; have hcz6_4 : w5.cell? ⟨gb216, 4, none⟩ = some (.string a0_4) := (blk_cell BK216.out 4).trans rfl; have hfz6_0 := blk_frozen BK216.out 0; have hfz6_1 := blk_frozen BK216.out 1; have hfz6_2 := blk_frozen BK216.out 2; have hfz6_3 := blk_frozen BK216.out 3; have hfz6_4 := blk_frozen BK216.out 4))
 (try simp only [Act.put, List.setIfInBounds_toArray, List.set_cons_zero, List.set_cons_succ])
 have h := HF_.out
 clear HF_
 have H : (if a0_0 = 3 then (some (mn (mx a0_1 0) 18)) else (some 0)) = some r := h
 clear h
 by_cases c2 : a0_0 = 3
 ·rw [if_pos c2] at H
  have c2b0 : (a0_0 == 3) = true := beq_iff_eq.mpr c2
  have c2b1 : (a0_0 != 3) = false := bne_eq_false_iff_eq.mpr c2
  clear c2
  obtain ⟨ji3, hji3⟩ : ∃ j_ : Int, (mx a0_1 0) = j_ := ⟨_, rfl⟩
  replace H : (some (mn (ji3) 18)) = some r := by first | (rw [hji3] at H; exact H) | (simp only [hji3] at H ⊢; exact H)
  (try (have hji3l : 0 ≤ ji3 := by (rw [← hji3]; unfold mx; (repeat' split) <;> omega)))
  (try (have hji3m : 0 ≤ ji3 := by omega))
  have hji3_ : (if a0_1 < 0 then 0 else a0_1) = ji3 := hji3
  obtain ⟨ji4, hji4⟩ : ∃ j_ : Int, (mn (ji3) 18) = j_ := ⟨_, rfl⟩
  replace H : (some ji4) = some r := by first | (rw [hji4] at H; exact H) | (simp only [hji4] at H ⊢; exact H)
  have hji4_ : (if 18 < (ji3) then 18 else (ji3)) = ji4 := hji4
  obtain rfl := Option.some.inj H
  go_wp2
  go_ret
  exact ⟨by first | rfl | (simp [errW_none, errW_some] <;> rfl) | (simp only [← hji3, ← hji4]; first | rfl | (simp [errW_none, errW_some] <;> rfl)) | (simp [*, errW_none, errW_some] <;> rfl), by repeat (first | (with_reducible first | exact HB.out | apply below_alloc | apply pw_below_drewN | apply below_drew1 | refine below_set ?_ GE216.out) | exact HB.out)⟩
 ·rw [if_neg c2] at H
  have c2b0 : (a0_0 == 3) = false := beq_eq_false_iff_ne.mpr c2
  have c2b1 : (a0_0 != 3) = true := bne_iff_ne.mpr c2
  obtain rfl := Option.some.inj H
  go_wp2
  go_ret
  exact ⟨by first | rfl | (simp [errW_none, errW_some] <;> rfl) | (simp [*, errW_none, errW_some] <;> rfl), by repeat (first | (with_reducible first | exact HB.out | apply below_alloc | apply pw_below_drewN | apply below_drew1 | refine below_set ?_ GE216.out) | exact HB.out)⟩

end Go.Proofs.YtmeopdjdjmjngaaGreatDoor.F
