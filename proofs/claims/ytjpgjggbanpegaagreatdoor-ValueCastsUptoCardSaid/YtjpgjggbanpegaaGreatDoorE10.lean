/- PRINTED BY A PROGRAM OF THIS SESSION (px.py, over the kit's print): Lean functions with the answers of Go functions of the given program, and proofs that the Go code comes to these answers; each under the conditions that its theorem states. -/
import Derived.Test.YtjpgjggbanpegaaGreatDoorE0
import Derived.Test.YtjpgjggbanpegaaGreatDoorE7
import Derived.Test.YtjpgjggbanpegaaGreatDoorE8
import Derived.Test.YtjpgjggbanpegaaGreatDoorE9
namespace Go.Proofs.YtjpgjggbanpegaaGreatDoor.E
open Go.RowKit Go.Proofs.YtjpgjggbanpegaaGreatDoorW.PrintWords Go.Proofs.YtjpgjggbanpegaaGreatDoorW.PrintLast Go.Proofs.YtjpgjggbanpegaaGreatDoorW.PrintMore
attribute [local go_sem] max2_int min2_int max_two min_two max_three min_three max_four min_four   -- for this text's walks alone
set_option linter.unusedVariables false
set_option linter.unusedSimpArgs false
theorem zE10_0 {P : Prop} (h : P := by (with_reducible repeat (first | refine blk_drewN ?_ _ | refine blk_drew ?_)); refine blk_put (cs := #[.int .i64 0, .int .i64 0, .bool false, .int .i64 0, .string (⟨#[]⟩ : ByteArray)]) ?_ 4 _ rfl; (with_reducible repeat (first | refine blk_drewN ?_ _ | refine blk_drew ?_)); refine blk_put (cs := #[.int .i64 0, .int .i64 0, .bool false, .int .i64 0, .string (⟨#[]⟩ : ByteArray)]) ?_ 3 _ rfl; (with_reducible repeat (first | refine blk_drewN ?_ _ | refine blk_drew ?_)); refine blk_put (cs := #[.int .i64 0, .int .i64 0, .bool false, .int .i64 0, .string (⟨#[]⟩ : ByteArray)]) ?_ 2 _ rfl; (with_reducible repeat (first | refine blk_drewN ?_ _ | refine blk_drew ?_)); refine blk_put (cs := #[.int .i64 0, .int .i64 0, .bool false, .int .i64 0, .string (⟨#[]⟩ : ByteArray)]) ?_ 1 _ rfl; (with_reducible repeat (first | refine blk_drewN ?_ _ | refine blk_drew ?_)); refine blk_put (cs := #[.int .i64 0, .int .i64 0, .bool false, .int .i64 0, .string (⟨#[]⟩ : ByteArray)]) ?_ 0 _ rfl; (with_reducible repeat (first | refine blk_drewN ?_ _ | refine blk_drew ?_)); first | exact blk_alloc (colonnaderef02_read.new2 _ _ _) _ | exact k2 | exact colonnaderef02_read.other k2 _ _ _ (by omega)) : P := h
theorem zE10_1 {P : Prop} (h : P := by repeat (first | (with_reducible first | exact HB.out | apply below_alloc | apply pw_below_drewN | apply below_drew1) | exact HB.out)) : P := h
theorem zE10_2 {P : Prop} (h : P := by first | (with_reducible assumption) | assumption) : P := h
theorem zE10_3 {P : Prop} (h : P := by (try simp only [List.map_toArray, List.map_cons, List.map_nil]); first | done | rfl | (simp only [List.length_drop, List.length_take]; rfl)) : P := h
theorem zE10_4 {P : Prop} (h : P := by first | rfl | (simp; done) | (simp [*]; done)) : P := h
theorem zE10_5 {P : Prop} (h : P := by kernel_rfl) : P := h
theorem zE10_6 {P : Prop} (h : P := by omega) : P := h
theorem zE10_7 {P : Prop} (h : P := by have : (4 : Int) < (a0.size : Int) := of_decide_eq_true zE10_2; omega) : P := h
theorem zE10_8 {P : Prop} (h : P := by have : (7 : Int) < (a0.size : Int) := of_decide_eq_true zE10_2; omega) : P := h

/-! ### colonnaderef01_Day: function 74 -/
mutual
def colonnaderef01_Day.j0 : Nat → Int → Int → Int → Bool → Option (Int × Int)
 | 0, _, _, _, _ => none
 | k + 1, x0, x1, x2, x34 => if x34 = true then (some (0, 13)) else ((colonnaderef01_before.f x0).bind fun t290 => (colonnaderef01_Day.l0 k x0 x1 (wrap64 ((wrap64 (t290 + (-719162))) + (wrap64 (x2 - 1)))) 1))
def colonnaderef01_Day.l0 : Nat → Int → Int → Int → Int → Option (Int × Int)
 | 0, _, _, _, _ => none
 | k + 1, x0, x1, x8, x9 => if x9 < x1 then ((colonnaderef01_length.f k x0 x9).bind fun t291 => (colonnaderef01_Day.l0 k x0 x1 (wrap64 (x8 + t291)) (wrap64 (x9 + 1)))) else (some (x8, 0))
end
def colonnaderef01_Day.f (k : Nat) (a0 : Int) (a1 : Int) (a2 : Int) : Option (Int × Int) := if a0 < 1 then (colonnaderef01_Day.j0 k a0 a1 a2 true) else (if a0 > 9999 then (colonnaderef01_Day.j0 k a0 a1 a2 true) else (if a1 < 1 then (colonnaderef01_Day.j0 k a0 a1 a2 true) else (if a1 > 12 then (colonnaderef01_Day.j0 k a0 a1 a2 true) else (if a2 < 1 then (colonnaderef01_Day.j0 k a0 a1 a2 true) else ((colonnaderef01_length.f k a0 a1).bind fun t289 => (colonnaderef01_Day.j0 k a0 a1 a2 (decide (a2 > t289))))))))
theorem colonnaderef01_Day.mono_l : ∀ k, (∀ y0 y1 y2 y3, LeO (colonnaderef01_Day.j0 k y0 y1 y2 y3) (colonnaderef01_Day.j0 (k + 1) y0 y1 y2 y3)) ∧ (∀ y0 y1 y2 y3, LeO (colonnaderef01_Day.l0 k y0 y1 y2 y3) (colonnaderef01_Day.l0 (k + 1) y0 y1 y2 y3))
 | 0 => ⟨fun _ _ _ _ r h => by simp [colonnaderef01_Day.j0] at h, fun _ _ _ _ r h => by simp [colonnaderef01_Day.l0] at h⟩
 | k + 1 => by
  obtain ⟨ih0, ih1⟩ := colonnaderef01_Day.mono_l k
  refine ⟨?_, ?_⟩
  ·intro y0 y1 y2 y3
   unfold colonnaderef01_Day.j0
   repeat' first
   | (with_reducible exact ih0 _ _ _ _)
   | (with_reducible exact ih1 _ _ _ _)
   | (with_reducible exact colonnaderef01_length.mono _ _ _)
   | (with_reducible exact LeO.refl _)
   | (with_reducible exact LeO.none _)
   | (with_reducible refine LeO.ite ?_ ?_)
   | (with_reducible refine LeO.bind ?_ (fun _ => ?_))
   | exact ih0 _ _ _ _
   | exact ih1 _ _ _ _
   | exact colonnaderef01_length.mono _ _ _
   | exact LeO.none _
   | refine LeO.ite ?_ ?_
   | refine LeO.bind ?_ (fun _ => ?_)
  ·intro y0 y1 y2 y3
   unfold colonnaderef01_Day.l0
   repeat' first
   | (with_reducible exact ih0 _ _ _ _)
   | (with_reducible exact ih1 _ _ _ _)
   | (with_reducible exact colonnaderef01_length.mono _ _ _)
   | (with_reducible exact LeO.refl _)
   | (with_reducible exact LeO.none _)
   | (with_reducible refine LeO.ite ?_ ?_)
   | (with_reducible refine LeO.bind ?_ (fun _ => ?_))
   | exact ih0 _ _ _ _
   | exact ih1 _ _ _ _
   | exact colonnaderef01_length.mono _ _ _
   | exact LeO.none _
   | refine LeO.ite ?_ ?_
   | refine LeO.bind ?_ (fun _ => ?_)
theorem colonnaderef01_Day.mono : ∀ a0 a1 a2 k, LeO (colonnaderef01_Day.f k a0 a1 a2) (colonnaderef01_Day.f (k + 1) a0 a1 a2) := by
 intro a0 a1 a2 k
 obtain ⟨ih0, ih1⟩ := colonnaderef01_Day.mono_l k
 unfold colonnaderef01_Day.f
 repeat' first
   | (with_reducible exact ih0 _ _ _ _)
   | (with_reducible exact ih1 _ _ _ _)
   | (with_reducible exact colonnaderef01_length.mono _ _ _)
   | (with_reducible exact LeO.refl _)
   | (with_reducible exact LeO.none _)
   | (with_reducible refine LeO.ite ?_ ?_)
   | (with_reducible refine LeO.bind ?_ (fun _ => ?_))
   | exact ih0 _ _ _ _
   | exact ih1 _ _ _ _
   | exact colonnaderef01_length.mono _ _ _
   | exact LeO.none _
   | refine LeO.ite ?_ ?_
   | refine LeO.bind ?_ (fun _ => ?_)
set_option maxHeartbeats 8000000 in
set_option maxRecDepth 100000 in
theorem colonnaderef01_Day.calls (k : Nat) (a0 : Int) (a1 : Int) (a2 : Int) (r1 : Int) (r2 : Int) (w : World) (h : colonnaderef01_Day.f k a0 a1 a2 = some (r1, r2)) :
  Calls Tryz.prog 74 #[.int .i64 a0, .int .i64 a1, .int .i64 a2] w fun e w' => e = .returned (.tuple #[.int .i64 r1, .int .i64 r2]) ∧ Drawn0 w w' := by
 have H : (if a0 < 1 then (colonnaderef01_Day.j0 k a0 a1 a2 true) else (if a0 > 9999 then (colonnaderef01_Day.j0 k a0 a1 a2 true) else (if a1 < 1 then (colonnaderef01_Day.j0 k a0 a1 a2 true) else (if a1 > 12 then (colonnaderef01_Day.j0 k a0 a1 a2 true) else (if a2 < 1 then (colonnaderef01_Day.j0 k a0 a1 a2 true) else ((colonnaderef01_length.f k a0 a1).bind fun t289 => (colonnaderef01_Day.j0 k a0 a1 a2 (decide (a2 > t289))))))))) = some (r1, r2) := h
 clear h
 have HC4 := Aside0.mk H
 clear H
 go_enter Tryz.func74, Tryz.ntmps74
 go_upto_region 1 with (fail)
 go_cut [34] (fun v34 wc => ∃ (kq : Nat) (x34_3 : Bool), v34 = .bool x34_3 ∧ Aside0 (colonnaderef01_Day.j0 kq a0 a1 a2 x34_3 = some (r1, r2)) ∧ Aside0 (kq ≤ k) ∧ Drawn0 w wc)
 case first =>
  have H := HC4.out
  clear HC4
  by_cases c5 : a0 < 1
  ·rw [if_pos c5] at H
   have c5b0 : decide (a0 < 1) = true := decide_eq_true c5
   clear c5
   (first | rw [c5b0] | (simp only [i64_w, i32_w]; rw [c5b0]) | skip)
   have H' := Aside0.mk H
   clear H
   go_wp2
   go_meet
   case rel => exact ⟨_, (true), zE10_4, H', ⟨by first | omega | exact Nat.le_refl _⟩, by repeat (first | exact Drawn0.refl _ | apply Drawn0.step)⟩
  ·rw [if_neg c5] at H
   have c5b0 : decide (a0 < 1) = false := decide_eq_false c5
   clear c5
   (first | rw [c5b0] | (simp only [i64_w, i32_w]; rw [c5b0]) | skip)
   by_cases c6 : a0 > 9999
   ·rw [if_pos c6] at H
    have c6b0 : decide (9999 < a0) = true := decide_eq_true c6
    clear c6
    have H' := Aside0.mk H
    clear H
    go_wp2
    go_meet
    case rel => exact ⟨_, (true), zE10_4, H', ⟨by first | omega | exact Nat.le_refl _⟩, by repeat (first | exact Drawn0.refl _ | apply Drawn0.step)⟩
   ·rw [if_neg c6] at H
    have c6b0 : decide (9999 < a0) = false := decide_eq_false c6
    clear c6
    by_cases c7 : a1 < 1
    ·rw [if_pos c7] at H
     have c7b0 : decide (a1 < 1) = true := decide_eq_true c7
     clear c7
     have H' := Aside0.mk H
     clear H
     go_wp2
     go_meet
     case rel => exact ⟨_, (true), zE10_4, H', ⟨by first | omega | exact Nat.le_refl _⟩, by repeat (first | exact Drawn0.refl _ | apply Drawn0.step)⟩
    ·rw [if_neg c7] at H
     have c7b0 : decide (a1 < 1) = false := decide_eq_false c7
     clear c7
     by_cases c8 : a1 > 12
     ·rw [if_pos c8] at H
      have c8b0 : decide (12 < a1) = true := decide_eq_true c8
      clear c8
      have H' := Aside0.mk H
      clear H
      go_wp2
      go_meet
      case rel => exact ⟨_, (true), zE10_4, H', ⟨by first | omega | exact Nat.le_refl _⟩, by repeat (first | exact Drawn0.refl _ | apply Drawn0.step)⟩
     ·rw [if_neg c8] at H
      have c8b0 : decide (12 < a1) = false := decide_eq_false c8
      clear c8
      by_cases c9 : a2 < 1
      ·rw [if_pos c9] at H
       have c9b0 : decide (a2 < 1) = true := decide_eq_true c9
       clear c9
       have H' := Aside0.mk H
       clear H
       go_wp2
       go_meet
       case rel => exact ⟨_, (true), zE10_4, H', ⟨by first | omega | exact Nat.le_refl _⟩, by repeat (first | exact Drawn0.refl _ | apply Drawn0.step)⟩
      ·rw [if_neg c9] at H
       have c9b0 : decide (a2 < 1) = false := decide_eq_false c9
       clear c9
       replace H := Option.bind_eq_some_iff.mp H
       obtain ⟨t289, A100, H⟩ := H
       replace H : (colonnaderef01_Day.j0 k a0 a1 a2 (decide (a2 > t289))) = some (r1, r2) := H
       have A10 := Aside0.mk A100
       clear A100
       have H' := Aside0.mk H
       clear H
       go_wp2_with (first | (go_at_call 103; (with_reducible refine (colonnaderef01_length.calls k a0 a1 t289 _ A10.out).mono ?_); rintro e w' ⟨rfl, ⟨nd, rfl⟩⟩))
       go_meet
       case rel => exact ⟨_, (decide (a2 > t289)), zE10_4, H', ⟨by first | omega | exact Nat.le_refl _⟩, by repeat (first | exact Drawn0.refl _ | apply Drawn0.step)⟩
 case rest =>
  clear HC4
  obtain ⟨kq, x34_3, rfl, HA, HJ3, ⟨mc3, rfl⟩⟩ := hcut
  cases kq with
  | zero => exact absurd HA.out (by simp [colonnaderef01_Day.j0])
  | succ kj3 =>
   have H := HA.out
   clear HA
   simp only [colonnaderef01_Day.j0] at H
   by_cases c11 : x34_3 = true
   ·subst c11
    have H1 : (some (0, 13)) = some (r1, r2) := by rw [if_pos rfl] at H; exact H
    clear H
    have H := H1
    clear H1
    simp only [Option.some.injEq, Prod.mk.injEq] at H
    obtain ⟨rfl, rfl⟩ := H
    go_wp2
    go_ret2
    exact ⟨by first | rfl | (simp; done) | (simp [*]; done), by repeat (first | exact Drawn0.refl _ | apply Drawn0.step)⟩
   ·replace c11 := Bool.eq_false_iff.mpr c11
    subst c11
    have H1 : ((colonnaderef01_before.f a0).bind fun t290 => (colonnaderef01_Day.l0 kj3 a0 a1 (wrap64 ((wrap64 (t290 + (-719162))) + (wrap64 (a2 - 1)))) 1)) = some (r1, r2) := by rw [if_neg (show ¬ (false = true) by decide)] at H; exact H
    clear H
    have H := H1
    clear H1
    replace H := Option.bind_eq_some_iff.mp H
    obtain ⟨t290, A120, H⟩ := H
    replace H : (colonnaderef01_Day.l0 kj3 a0 a1 (wrap64 ((wrap64 (t290 + (-719162))) + (wrap64 (a2 - 1)))) 1) = some (r1, r2) := H
    have A12 := Aside0.mk A120
    clear A120
    have H' := Aside0.mk H
    clear H
    go_wp2_with (first | ((with_reducible refine gate_callee (f := 102) rfl ?_); refine goesL_ (some 36) rfl rfl Tryz.func102 zE10_5 rfl #[.int .i64 a0] rfl zE10_3 ?_; (with_reducible refine (colonnaderef01_before.calls a0 t290 _ A12.out).mono ?_); rintro e w' ⟨rfl, ⟨nd, rfl⟩⟩; refine ⟨_, rfl, ?_⟩))
    go_loopg [8, 9] kj3 (fun kq v8 v9 w' => ∃ (x8_2 : Int) (x9_2 : Int), v8 = .int .i64 x8_2 ∧ v9 = .int .i64 x9_2 ∧ Aside0 (colonnaderef01_Day.l0 kq a0 a1 x8_2 x9_2 = some (r1, r2)) ∧ Aside0 (kq ≤ kj3) ∧ Drawn0 w w')
    case atStart => exact ⟨(wrap64 ((wrap64 (t290 + (-719162))) + (wrap64 (a2 - 1)))), (1), zE10_4, zE10_4, H', ⟨Nat.le_refl _⟩, by repeat (first | exact Drawn0.refl _ | apply Drawn0.step)⟩
    case round =>
     clear H'
     (try clear c11)
     obtain ⟨x8_2, x9_2, rfl, rfl, HA, HK2, ⟨m2, rfl⟩⟩ := hrel
     cases gk with
     | zero => exact absurd HA.out (by simp [colonnaderef01_Day.l0])
     | succ k2 =>
      have H := HA.out
      clear HA
      simp only [colonnaderef01_Day.l0] at H
      by_cases c13 : x9_2 < a1
      ·rw [if_pos c13] at H
       have c13b0 : decide (x9_2 < a1) = true := decide_eq_true c13
       clear c13
       replace H := Option.bind_eq_some_iff.mp H
       obtain ⟨t291, A140, H⟩ := H
       replace H : (colonnaderef01_Day.l0 k2 a0 a1 (wrap64 (x8_2 + t291)) (wrap64 (x9_2 + 1))) = some (r1, r2) := H
       have A14 := Aside0.mk A140
       clear A140
       have H' := Aside0.mk H
       clear H
       go_wp2_with (first | ((with_reducible refine gate_callee (f := 103) rfl ?_); refine goesL_ (some 49) rfl rfl Tryz.func103 zE10_5 rfl #[.int .i64 a0, .int .i64 x9_2] rfl zE10_3 ?_; (with_reducible refine (colonnaderef01_length.calls k2 a0 x9_2 t291 _ A14.out).mono ?_); rintro e w' ⟨rfl, ⟨nd, rfl⟩⟩; refine ⟨_, rfl, ?_⟩))
       go_roundg k2
       case measure => have := HJ3.out; have := HK2.out; omega
       case rel => exact ⟨(wrap64 (x8_2 + t291)), (wrap64 (x9_2 + 1)), zE10_4, zE10_4, H', ⟨by have := HJ3.out; have := HK2.out; omega⟩, by repeat (first | exact Drawn0.refl _ | apply Drawn0.step)⟩
      ·rw [if_neg c13] at H
       have c13b0 : decide (x9_2 < a1) = false := decide_eq_false c13
       clear c13
       simp only [Option.some.injEq, Prod.mk.injEq] at H
       obtain ⟨rfl, rfl⟩ := H
       go_wp2
       go_ret2
       exact ⟨by first | rfl | (simp; done) | (simp [*]; done), by repeat (first | exact Drawn0.refl _ | apply Drawn0.step)⟩

/-! ### colonnaderef01_ParseDay: function 46 -/
def colonnaderef01_ParseDay.j0 : Nat → ByteArray → Bool → Option (Int × Int)
 | 0, _, _ => none
 | k + 1, x0, x40 => if x40 = true then (some (0, 12)) else (if 0 ≤ 4 then (if 4 ≤ (x0.size : Int) then ((colonnaderef01_read.f k (x0.extract 0 4) 9999).bind fun bt295 => (if 5 ≤ 7 then (if 7 ≤ (x0.size : Int) then ((colonnaderef01_read.f k (x0.extract 5 7) 99).bind fun bt297 => (if 8 ≤ (x0.size : Int) then ((colonnaderef01_read.f k (x0.extract 8 x0.size) 99).bind fun bt299 => ((colonnaderef01_Day.f k (wrap64 (bt295.1)) (wrap64 (bt297.1)) (wrap64 (bt299.1))).bind fun bt301 => (some (bt301.1, bt301.2)))) else (none))) else (none)) else (none))) else (none)) else (none))
def colonnaderef01_ParseDay.f (k : Nat) (a0 : ByteArray) : Option (Int × Int) := if (a0.size : Int) = 10 then (if 4 < (a0.size : Int) then (if (bt a0 4) = 45 then (if 7 < (a0.size : Int) then (if (bt a0 7) = 45 then (if 0 ≤ 4 then (if 4 ≤ (a0.size : Int) then ((colonnaderef01_digits.f k (a0.extract 0 4)).bind fun t292 => (if t292 = true then (if 5 ≤ 7 then (if 7 ≤ (a0.size : Int) then ((colonnaderef01_digits.f k (a0.extract 5 7)).bind fun t293 => (if t293 = true then (if 8 ≤ (a0.size : Int) then ((colonnaderef01_digits.f k (a0.extract 8 a0.size)).bind fun t294 => (colonnaderef01_ParseDay.j0 k a0 (!t294))) else (none)) else (colonnaderef01_ParseDay.j0 k a0 true))) else (none)) else (none)) else (colonnaderef01_ParseDay.j0 k a0 true))) else (none)) else (none)) else (colonnaderef01_ParseDay.j0 k a0 true)) else (none)) else (colonnaderef01_ParseDay.j0 k a0 true)) else (none)) else (colonnaderef01_ParseDay.j0 k a0 true)
theorem colonnaderef01_ParseDay.mono_l : ∀ k, (∀ y0 y1, LeO (colonnaderef01_ParseDay.j0 k y0 y1) (colonnaderef01_ParseDay.j0 (k + 1) y0 y1))
 | 0 => fun _ _ r h => by simp [colonnaderef01_ParseDay.j0] at h
 | k + 1 => by
  have ih0 := colonnaderef01_ParseDay.mono_l k
  ·intro y0 y1
   unfold colonnaderef01_ParseDay.j0
   repeat' first
   | (with_reducible exact ih0 _ _)
   | (with_reducible exact colonnaderef01_Day.mono _ _ _ _)
   | (with_reducible exact colonnaderef01_digits.mono _ _)
   | (with_reducible exact colonnaderef01_read.mono _ _ _)
   | (with_reducible exact LeO.refl _)
   | (with_reducible exact LeO.none _)
   | (with_reducible refine LeO.ite ?_ ?_)
   | (with_reducible refine LeO.bind ?_ (fun _ => ?_))
   | exact ih0 _ _
   | exact colonnaderef01_Day.mono _ _ _ _
   | exact colonnaderef01_digits.mono _ _
   | exact colonnaderef01_read.mono _ _ _
   | exact LeO.none _
   | refine LeO.ite ?_ ?_
   | refine LeO.bind ?_ (fun _ => ?_)
theorem colonnaderef01_ParseDay.mono : ∀ a0 k, LeO (colonnaderef01_ParseDay.f k a0) (colonnaderef01_ParseDay.f (k + 1) a0) := by
 intro a0 k
 have ih0 := colonnaderef01_ParseDay.mono_l k
 unfold colonnaderef01_ParseDay.f
 repeat' first
   | (with_reducible exact ih0 _ _)
   | (with_reducible exact colonnaderef01_Day.mono _ _ _ _)
   | (with_reducible exact colonnaderef01_digits.mono _ _)
   | (with_reducible exact colonnaderef01_read.mono _ _ _)
   | (with_reducible exact LeO.refl _)
   | (with_reducible exact LeO.none _)
   | (with_reducible refine LeO.ite ?_ ?_)
   | (with_reducible refine LeO.bind ?_ (fun _ => ?_))
   | exact ih0 _ _
   | exact colonnaderef01_Day.mono _ _ _ _
   | exact colonnaderef01_digits.mono _ _
   | exact colonnaderef01_read.mono _ _ _
   | exact LeO.none _
   | refine LeO.ite ?_ ?_
   | refine LeO.bind ?_ (fun _ => ?_)
set_option maxHeartbeats 8000000 in
set_option maxRecDepth 100000 in
theorem colonnaderef01_ParseDay.calls (k : Nat) (a0 : ByteArray) (r1 : Int) (r2 : Int) (w : World) (h : colonnaderef01_ParseDay.f k a0 = some (r1, r2)) :
  Calls Tryz.prog 46 #[.string a0] w fun e w' => e = .returned (.tuple #[.int .i64 r1, .int .i64 r2]) ∧ Drawn0 w w' := by
 have H : (if (a0.size : Int) = 10 then (if 4 < (a0.size : Int) then (if (bt a0 4) = 45 then (if 7 < (a0.size : Int) then (if (bt a0 7) = 45 then (if 0 ≤ 4 then (if 4 ≤ (a0.size : Int) then ((colonnaderef01_digits.f k (a0.extract 0 4)).bind fun t292 => (if t292 = true then (if 5 ≤ 7 then (if 7 ≤ (a0.size : Int) then ((colonnaderef01_digits.f k (a0.extract 5 7)).bind fun t293 => (if t293 = true then (if 8 ≤ (a0.size : Int) then ((colonnaderef01_digits.f k (a0.extract 8 a0.size)).bind fun t294 => (colonnaderef01_ParseDay.j0 k a0 (!t294))) else (none)) else (colonnaderef01_ParseDay.j0 k a0 true))) else (none)) else (none)) else (colonnaderef01_ParseDay.j0 k a0 true))) else (none)) else (none)) else (colonnaderef01_ParseDay.j0 k a0 true)) else (none)) else (colonnaderef01_ParseDay.j0 k a0 true)) else (none)) else (colonnaderef01_ParseDay.j0 k a0 true)) = some (r1, r2) := h
 clear h
 have HC2 := Aside0.mk H
 clear H
 go_enter Tryz.func46, Tryz.ntmps46
 go_upto_region 1 with (fail)
 go_cut [40] (fun v40 wc => ∃ (kq : Nat) (x40_1 : Bool), v40 = .bool x40_1 ∧ Aside0 (colonnaderef01_ParseDay.j0 kq a0 x40_1 = some (r1, r2)) ∧ Aside0 (kq ≤ k) ∧ Drawn0 w wc)
 case first =>
  have H := HC2.out
  clear HC2
  by_cases c3 : (a0.size : Int) = 10
  ·rw [if_pos c3] at H
   have c3b0 : ((a0.size : Int) == 10) = true := beq_iff_eq.mpr c3
   have c3b1 : ((a0.size : Int) != 10) = false := bne_eq_false_iff_eq.mpr c3
   clear c3
   (first | rw [c3b0] | (simp only [i64_w, i32_w]; rw [c3b0]) | skip)
   by_cases c4 : 4 < (a0.size : Int)
   ·rw [if_pos c4] at H
    have c4b0 : decide (4 < (a0.size : Int)) = true := decide_eq_true c4
    have c4b1 : decide (4 < a0.size) = true := decide_eq_true zE10_6
    clear c4
    by_cases c6 : (bt a0 4) = 45
    ·rw [if_pos c6] at H
     have c6b0 : ((bt a0 4) == 45) = true := beq_iff_eq.mpr c6
     have c6b1 : ((bt a0 4) != 45) = false := bne_eq_false_iff_eq.mpr c6
     clear c6
     by_cases c7 : 7 < (a0.size : Int)
     ·rw [if_pos c7] at H
      have c7b0 : decide (7 < (a0.size : Int)) = true := decide_eq_true c7
      have c7b1 : decide (7 < a0.size) = true := decide_eq_true zE10_6
      clear c7
      by_cases c9 : (bt a0 7) = 45
      ·rw [if_pos c9] at H
       have c9b0 : ((bt a0 7) == 45) = true := beq_iff_eq.mpr c9
       have c9b1 : ((bt a0 7) != 45) = false := bne_eq_false_iff_eq.mpr c9
       clear c9
       by_cases c10 : 0 ≤ 4
       ·rw [if_pos c10] at H
        have c10b0 := eq_true c10
        (try (have c10n := c10; simp [size_lit] at c10n))
        (try (have c10m := eq_false (Nat.not_lt.2 c10); simp only [ByteArray.size_append, size_lit, List.length_cons, List.length_nil, Nat.reduceAdd, Nat.zero_add] at c10m))
        have c10b1 : decide (0 ≤ 4) = true := decide_eq_true c10
        clear c10
        by_cases c11 : 4 ≤ (a0.size : Int)
        ·rw [if_pos c11] at H
         have c11b0 := eq_true c11
         (try (have c11n := c11; simp [size_lit] at c11n))
         (try (have c11m := eq_false (Nat.not_lt.2 c11); simp only [ByteArray.size_append, size_lit, List.length_cons, List.length_nil, Nat.reduceAdd, Nat.zero_add] at c11m))
         have c11b1 : decide (4 ≤ (a0.size : Int)) = true := decide_eq_true c11
         clear c11
         replace H := Option.bind_eq_some_iff.mp H
         obtain ⟨t292, A120, H⟩ := H
         replace H : (if t292 = true then (if 5 ≤ 7 then (if 7 ≤ (a0.size : Int) then ((colonnaderef01_digits.f k (a0.extract 5 7)).bind fun t293 => (if t293 = true then (if 8 ≤ (a0.size : Int) then ((colonnaderef01_digits.f k (a0.extract 8 a0.size)).bind fun t294 => (colonnaderef01_ParseDay.j0 k a0 (!t294))) else (none)) else (colonnaderef01_ParseDay.j0 k a0 true))) else (none)) else (none)) else (colonnaderef01_ParseDay.j0 k a0 true)) = some (r1, r2) := H
         have A12 := Aside0.mk A120
         clear A120
         by_cases c13 : t292 = true
         ·subst c13
          have H1 : (if 5 ≤ 7 then (if 7 ≤ (a0.size : Int) then ((colonnaderef01_digits.f k (a0.extract 5 7)).bind fun t293 => (if t293 = true then (if 8 ≤ (a0.size : Int) then ((colonnaderef01_digits.f k (a0.extract 8 a0.size)).bind fun t294 => (colonnaderef01_ParseDay.j0 k a0 (!t294))) else (none)) else (colonnaderef01_ParseDay.j0 k a0 true))) else (none)) else (none)) = some (r1, r2) := by rw [if_pos rfl] at H; exact H
          clear H
          have H := H1
          clear H1
          by_cases c14 : 5 ≤ 7
          ·rw [if_pos c14] at H
           have c14b0 := eq_true c14
           (try (have c14n := c14; simp [size_lit] at c14n))
           (try (have c14m := eq_false (Nat.not_lt.2 c14); simp only [ByteArray.size_append, size_lit, List.length_cons, List.length_nil, Nat.reduceAdd, Nat.zero_add] at c14m))
           have c14b1 : decide (5 ≤ 7) = true := decide_eq_true c14
           clear c14
           by_cases c15 : 7 ≤ (a0.size : Int)
           ·rw [if_pos c15] at H
            have c15b0 := eq_true c15
            (try (have c15n := c15; simp [size_lit] at c15n))
            (try (have c15m := eq_false (Nat.not_lt.2 c15); simp only [ByteArray.size_append, size_lit, List.length_cons, List.length_nil, Nat.reduceAdd, Nat.zero_add] at c15m))
            have c15b1 : decide (7 ≤ (a0.size : Int)) = true := decide_eq_true c15
            clear c15
            replace H := Option.bind_eq_some_iff.mp H
            obtain ⟨t293, A160, H⟩ := H
            replace H : (if t293 = true then (if 8 ≤ (a0.size : Int) then ((colonnaderef01_digits.f k (a0.extract 8 a0.size)).bind fun t294 => (colonnaderef01_ParseDay.j0 k a0 (!t294))) else (none)) else (colonnaderef01_ParseDay.j0 k a0 true)) = some (r1, r2) := H
            have A16 := Aside0.mk A160
            clear A160
            by_cases c17 : t293 = true
            ·subst c17
             have H1 : (if 8 ≤ (a0.size : Int) then ((colonnaderef01_digits.f k (a0.extract 8 a0.size)).bind fun t294 => (colonnaderef01_ParseDay.j0 k a0 (!t294))) else (none)) = some (r1, r2) := by rw [if_pos rfl] at H; exact H
             clear H
             have H := H1
             clear H1
             by_cases c18 : 8 ≤ (a0.size : Int)
             ·rw [if_pos c18] at H
              have c18b0 := eq_true c18
              (try (have c18n := c18; simp [size_lit] at c18n))
              (try (have c18m := eq_false (Nat.not_lt.2 c18); simp only [ByteArray.size_append, size_lit, List.length_cons, List.length_nil, Nat.reduceAdd, Nat.zero_add] at c18m))
              have c18b1 : decide (8 ≤ (a0.size : Int)) = true := decide_eq_true c18
              clear c18
              replace H := Option.bind_eq_some_iff.mp H
              obtain ⟨t294, A190, H⟩ := H
              replace H : (colonnaderef01_ParseDay.j0 k a0 (!t294)) = some (r1, r2) := H
              have A19 := Aside0.mk A190
              clear A190
              have H' := Aside0.mk H
              clear H
              have p5 : 0 ≤ (4 : Int) := zE10_6
              have q5 : 4 < a0.size := zE10_7
              have hx5 : ∀ h : 4 < a0.size, ((a0[4]'h).toNat : Int) = bt a0 4 := bt_at a0 4
              clear p5
              have qi5 : (4 < (a0.size : Int)) = True := eq_true (of_decide_eq_true zE10_2)
              replace q5 := eq_true q5
              have p8 : 0 ≤ (7 : Int) := zE10_6
              have q8 : 7 < a0.size := zE10_8
              have hx8 : ∀ h : 7 < a0.size, ((a0[7]'h).toNat : Int) = bt a0 7 := bt_at a0 7
              clear p8
              have qi8 : (7 < (a0.size : Int)) = True := eq_true (of_decide_eq_true zE10_2)
              replace q8 := eq_true q8
              go_wp2_with (first | (go_at_call 72; (with_reducible refine (colonnaderef01_digits.calls k (a0.extract 0 4) true _ A12.out).mono ?_); rintro e w' ⟨rfl, ⟨nd, rfl⟩⟩) | (go_at_call 72; (with_reducible refine (colonnaderef01_digits.calls k (a0.extract 5 7) true _ A16.out).mono ?_); rintro e w' ⟨rfl, ⟨nd, rfl⟩⟩) | (go_at_call 72; (with_reducible refine (colonnaderef01_digits.calls k (a0.extract 8 a0.size) t294 _ A19.out).mono ?_); rintro e w' ⟨rfl, ⟨nd, rfl⟩⟩))
              go_meet
              case rel => exact ⟨_, (!t294), zE10_4, H', ⟨by first | omega | exact Nat.le_refl _⟩, by repeat (first | exact Drawn0.refl _ | apply Drawn0.step)⟩
             ·rw [if_neg c18] at H
              exact absurd H (by simp)
            ·replace c17 := Bool.eq_false_iff.mpr c17
             subst c17
             have H1 : (colonnaderef01_ParseDay.j0 k a0 true) = some (r1, r2) := by rw [if_neg (show ¬ (false = true) by decide)] at H; exact H
             clear H
             have H := H1
             clear H1
             have H' := Aside0.mk H
             clear H
             have p5 : 0 ≤ (4 : Int) := zE10_6
             have q5 : 4 < a0.size := zE10_7
             have hx5 : ∀ h : 4 < a0.size, ((a0[4]'h).toNat : Int) = bt a0 4 := bt_at a0 4
             clear p5
             have qi5 : (4 < (a0.size : Int)) = True := eq_true (of_decide_eq_true zE10_2)
             replace q5 := eq_true q5
             have p8 : 0 ≤ (7 : Int) := zE10_6
             have q8 : 7 < a0.size := zE10_8
             have hx8 : ∀ h : 7 < a0.size, ((a0[7]'h).toNat : Int) = bt a0 7 := bt_at a0 7
             clear p8
             have qi8 : (7 < (a0.size : Int)) = True := eq_true (of_decide_eq_true zE10_2)
             replace q8 := eq_true q8
             go_wp2_with (first | (go_at_call 72; (with_reducible refine (colonnaderef01_digits.calls k (a0.extract 0 4) true _ A12.out).mono ?_); rintro e w' ⟨rfl, ⟨nd, rfl⟩⟩) | (go_at_call 72; (with_reducible refine (colonnaderef01_digits.calls k (a0.extract 5 7) false _ A16.out).mono ?_); rintro e w' ⟨rfl, ⟨nd, rfl⟩⟩))
             go_meet
             case rel => exact ⟨_, (true), zE10_4, H', ⟨by first | omega | exact Nat.le_refl _⟩, by repeat (first | exact Drawn0.refl _ | apply Drawn0.step)⟩
           ·rw [if_neg c15] at H
            exact absurd H (by simp)
          ·rw [if_neg c14] at H
           exact absurd H (by simp)
         ·replace c13 := Bool.eq_false_iff.mpr c13
          subst c13
          have H1 : (colonnaderef01_ParseDay.j0 k a0 true) = some (r1, r2) := by rw [if_neg (show ¬ (false = true) by decide)] at H; exact H
          clear H
          have H := H1
          clear H1
          have H' := Aside0.mk H
          clear H
          have p5 : 0 ≤ (4 : Int) := zE10_6
          have q5 : 4 < a0.size := zE10_7
          have hx5 : ∀ h : 4 < a0.size, ((a0[4]'h).toNat : Int) = bt a0 4 := bt_at a0 4
          clear p5
          have qi5 : (4 < (a0.size : Int)) = True := eq_true (of_decide_eq_true zE10_2)
          replace q5 := eq_true q5
          have p8 : 0 ≤ (7 : Int) := zE10_6
          have q8 : 7 < a0.size := zE10_8
          have hx8 : ∀ h : 7 < a0.size, ((a0[7]'h).toNat : Int) = bt a0 7 := bt_at a0 7
          clear p8
          have qi8 : (7 < (a0.size : Int)) = True := eq_true (of_decide_eq_true zE10_2)
          replace q8 := eq_true q8
          go_wp2_with (first | (go_at_call 72; (with_reducible refine (colonnaderef01_digits.calls k (a0.extract 0 4) false _ A12.out).mono ?_); rintro e w' ⟨rfl, ⟨nd, rfl⟩⟩))
          go_meet
          case rel => exact ⟨_, (true), zE10_4, H', ⟨by first | omega | exact Nat.le_refl _⟩, by repeat (first | exact Drawn0.refl _ | apply Drawn0.step)⟩
        ·rw [if_neg c11] at H
         exact absurd H (by simp)
       ·rw [if_neg c10] at H
        exact absurd H (by simp)
      ·rw [if_neg c9] at H
       have c9b0 : ((bt a0 7) == 45) = false := beq_eq_false_iff_ne.mpr c9
       have c9b1 : ((bt a0 7) != 45) = true := bne_iff_ne.mpr c9
       have H' := Aside0.mk H
       clear H
       have p5 : 0 ≤ (4 : Int) := zE10_6
       have q5 : 4 < a0.size := zE10_7
       have hx5 : ∀ h : 4 < a0.size, ((a0[4]'h).toNat : Int) = bt a0 4 := bt_at a0 4
       clear p5
       have qi5 : (4 < (a0.size : Int)) = True := eq_true (of_decide_eq_true zE10_2)
       replace q5 := eq_true q5
       have p8 : 0 ≤ (7 : Int) := zE10_6
       have q8 : 7 < a0.size := zE10_8
       have hx8 : ∀ h : 7 < a0.size, ((a0[7]'h).toNat : Int) = bt a0 7 := bt_at a0 7
       clear p8
       have qi8 : (7 < (a0.size : Int)) = True := eq_true (of_decide_eq_true zE10_2)
       replace q8 := eq_true q8
       go_wp2
       go_meet
       case rel => exact ⟨_, (true), zE10_4, H', ⟨by first | omega | exact Nat.le_refl _⟩, by repeat (first | exact Drawn0.refl _ | apply Drawn0.step)⟩
     ·rw [if_neg c7] at H
      exact absurd H (by simp)
    ·rw [if_neg c6] at H
     have c6b0 : ((bt a0 4) == 45) = false := beq_eq_false_iff_ne.mpr c6
     have c6b1 : ((bt a0 4) != 45) = true := bne_iff_ne.mpr c6
     have H' := Aside0.mk H
     clear H
     have p5 : 0 ≤ (4 : Int) := zE10_6
     have q5 : 4 < a0.size := zE10_7
     have hx5 : ∀ h : 4 < a0.size, ((a0[4]'h).toNat : Int) = bt a0 4 := bt_at a0 4
     clear p5
     have qi5 : (4 < (a0.size : Int)) = True := eq_true (of_decide_eq_true zE10_2)
     replace q5 := eq_true q5
     go_wp2
     go_meet
     case rel => exact ⟨_, (true), zE10_4, H', ⟨by first | omega | exact Nat.le_refl _⟩, by repeat (first | exact Drawn0.refl _ | apply Drawn0.step)⟩
   ·rw [if_neg c4] at H
    exact absurd H (by simp)
  ·rw [if_neg c3] at H
   have c3b0 : ((a0.size : Int) == 10) = false := beq_eq_false_iff_ne.mpr c3
   have c3b1 : ((a0.size : Int) != 10) = true := bne_iff_ne.mpr c3
   (first | rw [c3b0] | (simp only [i64_w, i32_w]; rw [c3b0]) | skip)
   have H' := Aside0.mk H
   clear H
   go_wp2
   go_meet
   case rel => exact ⟨_, (true), zE10_4, H', ⟨by first | omega | exact Nat.le_refl _⟩, by repeat (first | exact Drawn0.refl _ | apply Drawn0.step)⟩
 case rest =>
  clear HC2
  obtain ⟨kq, x40_1, rfl, HA, HJ1, ⟨mc1, rfl⟩⟩ := hcut
  cases kq with
  | zero => exact absurd HA.out (by simp [colonnaderef01_ParseDay.j0])
  | succ kj1 =>
   have H := HA.out
   clear HA
   simp only [colonnaderef01_ParseDay.j0] at H
   by_cases c20 : x40_1 = true
   ·subst c20
    have H1 : (some (0, 12)) = some (r1, r2) := by rw [if_pos rfl] at H; exact H
    clear H
    have H := H1
    clear H1
    simp only [Option.some.injEq, Prod.mk.injEq] at H
    obtain ⟨rfl, rfl⟩ := H
    go_wp2
    go_ret2
    exact ⟨by first | rfl | (simp; done) | (simp [*]; done), by repeat (first | exact Drawn0.refl _ | apply Drawn0.step)⟩
   ·replace c20 := Bool.eq_false_iff.mpr c20
    subst c20
    have H1 : (if 0 ≤ 4 then (if 4 ≤ (a0.size : Int) then ((colonnaderef01_read.f kj1 (a0.extract 0 4) 9999).bind fun bt295 => (if 5 ≤ 7 then (if 7 ≤ (a0.size : Int) then ((colonnaderef01_read.f kj1 (a0.extract 5 7) 99).bind fun bt297 => (if 8 ≤ (a0.size : Int) then ((colonnaderef01_read.f kj1 (a0.extract 8 a0.size) 99).bind fun bt299 => ((colonnaderef01_Day.f kj1 (wrap64 (bt295.1)) (wrap64 (bt297.1)) (wrap64 (bt299.1))).bind fun bt301 => (some (bt301.1, bt301.2)))) else (none))) else (none)) else (none))) else (none)) else (none)) = some (r1, r2) := by rw [if_neg (show ¬ (false = true) by decide)] at H; exact H
    clear H
    have H := H1
    clear H1
    by_cases c21 : 0 ≤ 4
    ·rw [if_pos c21] at H
     have c21b0 := eq_true c21
     (try (have c21n := c21; simp [size_lit] at c21n))
     (try (have c21m := eq_false (Nat.not_lt.2 c21); simp only [ByteArray.size_append, size_lit, List.length_cons, List.length_nil, Nat.reduceAdd, Nat.zero_add] at c21m))
     have c21b1 : decide (0 ≤ 4) = true := decide_eq_true c21
     clear c21
     by_cases c22 : 4 ≤ (a0.size : Int)
     ·rw [if_pos c22] at H
      have c22b0 := eq_true c22
      (try (have c22n := c22; simp [size_lit] at c22n))
      (try (have c22m := eq_false (Nat.not_lt.2 c22); simp only [ByteArray.size_append, size_lit, List.length_cons, List.length_nil, Nat.reduceAdd, Nat.zero_add] at c22m))
      have c22b1 : decide (4 ≤ (a0.size : Int)) = true := decide_eq_true c22
      clear c22
      replace H := Option.bind_eq_some_iff.mp H
      obtain ⟨⟨t295, t296⟩, A230, H⟩ := H
      replace H : (if 5 ≤ 7 then (if 7 ≤ (a0.size : Int) then ((colonnaderef01_read.f kj1 (a0.extract 5 7) 99).bind fun bt297 => (if 8 ≤ (a0.size : Int) then ((colonnaderef01_read.f kj1 (a0.extract 8 a0.size) 99).bind fun bt299 => ((colonnaderef01_Day.f kj1 (wrap64 (t295)) (wrap64 (bt297.1)) (wrap64 (bt299.1))).bind fun bt301 => (some (bt301.1, bt301.2)))) else (none))) else (none)) else (none)) = some (r1, r2) := H
      have A23 := Aside0.mk A230
      clear A230
      by_cases c24 : 5 ≤ 7
      ·rw [if_pos c24] at H
       have c24b0 := eq_true c24
       (try (have c24n := c24; simp [size_lit] at c24n))
       (try (have c24m := eq_false (Nat.not_lt.2 c24); simp only [ByteArray.size_append, size_lit, List.length_cons, List.length_nil, Nat.reduceAdd, Nat.zero_add] at c24m))
       have c24b1 : decide (5 ≤ 7) = true := decide_eq_true c24
       clear c24
       by_cases c25 : 7 ≤ (a0.size : Int)
       ·rw [if_pos c25] at H
        have c25b0 := eq_true c25
        (try (have c25n := c25; simp [size_lit] at c25n))
        (try (have c25m := eq_false (Nat.not_lt.2 c25); simp only [ByteArray.size_append, size_lit, List.length_cons, List.length_nil, Nat.reduceAdd, Nat.zero_add] at c25m))
        have c25b1 : decide (7 ≤ (a0.size : Int)) = true := decide_eq_true c25
        clear c25
        replace H := Option.bind_eq_some_iff.mp H
        obtain ⟨⟨t297, t298⟩, A260, H⟩ := H
        replace H : (if 8 ≤ (a0.size : Int) then ((colonnaderef01_read.f kj1 (a0.extract 8 a0.size) 99).bind fun bt299 => ((colonnaderef01_Day.f kj1 (wrap64 (t295)) (wrap64 (t297)) (wrap64 (bt299.1))).bind fun bt301 => (some (bt301.1, bt301.2)))) else (none)) = some (r1, r2) := H
        have A26 := Aside0.mk A260
        clear A260
        by_cases c27 : 8 ≤ (a0.size : Int)
        ·rw [if_pos c27] at H
         have c27b0 := eq_true c27
         (try (have c27n := c27; simp [size_lit] at c27n))
         (try (have c27m := eq_false (Nat.not_lt.2 c27); simp only [ByteArray.size_append, size_lit, List.length_cons, List.length_nil, Nat.reduceAdd, Nat.zero_add] at c27m))
         have c27b1 : decide (8 ≤ (a0.size : Int)) = true := decide_eq_true c27
         clear c27
         replace H := Option.bind_eq_some_iff.mp H
         obtain ⟨⟨t299, t300⟩, A280, H⟩ := H
         replace H : ((colonnaderef01_Day.f kj1 (wrap64 (t295)) (wrap64 (t297)) (wrap64 (t299))).bind fun bt301 => (some (bt301.1, bt301.2))) = some (r1, r2) := H
         have A28 := Aside0.mk A280
         clear A280
         replace H := Option.bind_eq_some_iff.mp H
         obtain ⟨⟨t301, t302⟩, A290, H⟩ := H
         replace H : (some (t301, t302)) = some (r1, r2) := H
         have A29 := Aside0.mk A290
         clear A290
         simp only [Option.some.injEq, Prod.mk.injEq] at H
         obtain ⟨rfl, rfl⟩ := H
         go_wp2_with (first | ((with_reducible refine gate_callee (f := 73) rfl ?_); refine goesL_ (some 44) rfl rfl Tryz.func73 zE10_5 rfl #[.string (a0.extract 0 4), .int .u64 9999] rfl zE10_3 ?_; (with_reducible refine (colonnaderef01_read.calls kj1 (a0.extract 0 4) 9999 t295 t296 _ A23.out).mono ?_); rintro e w' ⟨rfl, ⟨nd, rfl⟩⟩; refine ⟨_, rfl, ?_⟩) | ((with_reducible refine gate_callee (f := 73) rfl ?_); refine goesL_ (some 50) rfl rfl Tryz.func73 zE10_5 rfl #[.string (a0.extract 5 7), .int .u64 99] rfl zE10_3 ?_; (with_reducible refine (colonnaderef01_read.calls kj1 (a0.extract 5 7) 99 t297 t298 _ A26.out).mono ?_); rintro e w' ⟨rfl, ⟨nd, rfl⟩⟩; refine ⟨_, rfl, ?_⟩) | ((with_reducible refine gate_callee (f := 73) rfl ?_); refine goesL_ (some 56) rfl rfl Tryz.func73 zE10_5 rfl #[.string (a0.extract 8 a0.size), .int .u64 99] rfl zE10_3 ?_; (with_reducible refine (colonnaderef01_read.calls kj1 (a0.extract 8 a0.size) 99 t299 t300 _ A28.out).mono ?_); rintro e w' ⟨rfl, ⟨nd, rfl⟩⟩; refine ⟨_, rfl, ?_⟩) | ((with_reducible refine gate_callee (f := 74) rfl ?_); refine goesL_ (some 65) rfl rfl Tryz.func74 zE10_5 rfl #[.int .i64 (wrap64 (t295)), .int .i64 (wrap64 (t297)), .int .i64 (wrap64 (t299))] rfl zE10_3 ?_; (with_reducible refine (colonnaderef01_Day.calls kj1 (wrap64 (t295)) (wrap64 (t297)) (wrap64 (t299)) t301 t302 _ A29.out).mono ?_); rintro e w' ⟨rfl, ⟨nd, rfl⟩⟩; refine ⟨_, rfl, ?_⟩))
         go_ret2
         exact ⟨by first | rfl | (simp; done) | (simp [*]; done), by repeat (first | exact Drawn0.refl _ | apply Drawn0.step)⟩
        ·rw [if_neg c27] at H
         exact absurd H (by simp)
       ·rw [if_neg c25] at H
        exact absurd H (by simp)
      ·rw [if_neg c24] at H
       exact absurd H (by simp)
     ·rw [if_neg c22] at H
      exact absurd H (by simp)
    ·rw [if_neg c21] at H
     exact absurd H (by simp)

/-! ### colonnaderef02_read: function 22, by hand -/
def colonnaderef02_read.fin (t0 t1 n e : Int) : Int × Int × Bool × Int × ByteArray × Int := if e = 0 then (t0, t1, false, n, (⟨#[]⟩ : ByteArray), 0) else (0, 0, false, 0, (⟨#[]⟩ : ByteArray), 22)
def colonnaderef02_read.f (k : Nat) (a0 : ByteArray) (t0 t1 : Int) : Option (Int × Int × Bool × Int × ByteArray × Int) :=
 if t0 = 1 then ((colonnaderef02_upper.f a0).bind fun c => if c.toList = ([84, 82, 85, 69] : List UInt8) then some (colonnaderef02_read.fin 1 t1 1 0) else if c.toList = ([70, 65, 76, 83, 69] : List UInt8) then some (colonnaderef02_read.fin 1 t1 0 0) else some (colonnaderef02_read.fin 1 t1 0 22))
 else if t0 = 2 then ((colonnaderef01_ParseInt.f k a0).bind fun r => some (colonnaderef02_read.fin 2 t1 r.1 r.2))
 else if t0 = 3 then ((colonnaderef01_ParseDec.f k a0).bind fun r => if r.2.2 = 0 then ((colonnaderef01_Scale.f k r.1 r.2.1 t1).bind fun q => some (colonnaderef02_read.fin 3 t1 q.1 q.2)) else some (colonnaderef02_read.fin 3 t1 r.1 r.2.2))
 else if t0 = 5 then ((colonnaderef01_ParseDay.f k a0).bind fun r => some (colonnaderef02_read.fin 5 t1 r.1 r.2))
 else some (colonnaderef02_read.fin t0 t1 0 0)
theorem colonnaderef02_read.mono : ∀ a0 a1 a2 k, LeO (colonnaderef02_read.f k a0 a1 a2) (colonnaderef02_read.f (k + 1) a0 a1 a2) := by
 intro a0 a1 a2 k
 unfold colonnaderef02_read.f
 repeat' first
   | (with_reducible exact colonnaderef01_ParseInt.mono _ _)
   | (with_reducible exact colonnaderef01_ParseDec.mono _ _)
   | (with_reducible exact colonnaderef01_ParseDay.mono _ _)
   | (with_reducible exact colonnaderef01_Scale.mono _ _ _ _)
   | (with_reducible exact LeO.refl _)
   | (with_reducible exact LeO.none _)
   | (with_reducible refine LeO.ite ?_ ?_)
   | (with_reducible refine LeO.bind ?_ (fun _ => ?_))
theorem colonnaderef02_read.after3 {w w8 : World} {o1 o3 : Array Value} {t : TypeId} (hb : Below (((w.alloc (.cells o1 t)).alloc (.cells #[.int .i64 0, .int .i64 0, .bool false, .int .i64 0, .string (⟨#[]⟩ : ByteArray)] 25)).alloc (.cells o3 25)).heap.size (((w.alloc (.cells o1 t)).alloc (.cells #[.int .i64 0, .int .i64 0, .bool false, .int .i64 0, .string (⟨#[]⟩ : ByteArray)] 25)).alloc (.cells o3 25)) w8) :
  w8.heap[w.heap.size]? = some (.cells o1 t (0, 0)) ∧ w8.heap[w.heap.size + 1]? = some (.cells #[.int .i64 0, .int .i64 0, .bool false, .int .i64 0, .string (⟨#[]⟩ : ByteArray)] 25 (0, 0)) ∧ w8.heap[w.heap.size + 1 + 1]? = some (.cells o3 25 (0, 0)) := by
 have e1 : ((w.alloc (.cells o1 t)).alloc (.cells #[.int .i64 0, .int .i64 0, .bool false, .int .i64 0, .string (⟨#[]⟩ : ByteArray)] 25)).heap[w.heap.size]? = some (.cells o1 t (0, 0)) := blk_alloc (heap_alloc_new w _) _
 have e2 : ((w.alloc (.cells o1 t)).alloc (.cells #[.int .i64 0, .int .i64 0, .bool false, .int .i64 0, .string (⟨#[]⟩ : ByteArray)] 25)).heap[w.heap.size + 1]? = some (.cells #[.int .i64 0, .int .i64 0, .bool false, .int .i64 0, .string (⟨#[]⟩ : ByteArray)] 25 (0, 0)) := by
  have := heap_alloc_new (w.alloc (.cells o1 t)) (.cells #[.int .i64 0, .int .i64 0, .bool false, .int .i64 0, .string (⟨#[]⟩ : ByteArray)] 25)
  rwa [World.size_alloc] at this
 have e3 : (((w.alloc (.cells o1 t)).alloc (.cells #[.int .i64 0, .int .i64 0, .bool false, .int .i64 0, .string (⟨#[]⟩ : ByteArray)] 25)).alloc (.cells o3 25)).heap[w.heap.size + 1 + 1]? = some (.cells o3 25 (0, 0)) := by
  have := heap_alloc_new ((w.alloc (.cells o1 t)).alloc (.cells #[.int .i64 0, .int .i64 0, .bool false, .int .i64 0, .string (⟨#[]⟩ : ByteArray)] 25)) (.cells o3 25)
  rwa [World.size_alloc, World.size_alloc] at this
 exact ⟨blk_below (blk_alloc e1 _) hb, blk_below (blk_alloc e2 _) hb, blk_below e3 hb⟩
theorem colonnaderef02_read.bel {W w8 : World} (h : Drawn0 W w8) : Below W.heap.size W w8 := by
 obtain ⟨n, rfl⟩ := h
 repeat (first | exact Below.refl _ _ | apply pw_below_drewN)
theorem colonnaderef02_read.new2 (w : World) (o1 o2 : Obj) : ((w.alloc o1).alloc o2).heap[w.heap.size + 1]? = some o2 := by
 have := heap_alloc_new (w.alloc o1) o2
 rwa [World.size_alloc] at this
theorem colonnaderef02_read.other {W : World} {g : Nat} {o : Obj} (h : W.heap[g]? = some o) (g' j : Nat) (v : Value) (hne : g ≠ g') : (W.setCell ⟨g', j, none⟩ v).heap[g]? = some o := (Below.heap_setCell W ⟨g', j, none⟩ v g hne).trans h
set_option maxHeartbeats 8000000 in
set_option maxRecDepth 100000 in
theorem colonnaderef02_read.intOk (k : Nat) (a0 : ByteArray) (n : Int) (t1 : Int) (w : World) (h1 : colonnaderef01_ParseInt.f k a0 = some (n, 0)) :
  Calls Tryz.prog 22 #[.string a0, .agg #[.int .i64 2, .int .i64 t1]] w fun e w' => e = .returned (.tuple #[.agg #[.int .i64 2, .int .i64 t1, .bool false, .int .i64 n, .string (⟨#[]⟩ : ByteArray)], .int .i64 0]) ∧ Below w.heap.size w w' := by
 have hu25 := Tryz.underlying25
 have HB := Aside0.mk (Below.refl w.heap.size w)
 have A1 := Aside0.mk h1
 clear h1
 go_enter Tryz.func22, Tryz.ntmps22
 go_wp2_with (first | (go_at_call 44; (with_reducible refine (colonnaderef01_ParseInt.calls k a0 n 0 _ A1.out).mono ?_); rintro e w8 ⟨rfl, hb⟩; have hb := colonnaderef02_read.bel hb; obtain ⟨k1, k2, k3⟩ := colonnaderef02_read.after3 hb; have hcb0 : w8.cell? ⟨w.heap.size, 0, none⟩ = some (.int .i64 2) := (blk_cell k1 0).trans rfl; have hcb1 : w8.cell? ⟨w.heap.size, 1, none⟩ = some (.int .i64 t1) := (blk_cell k1 1).trans rfl; have hcz0 : w8.cell? ⟨w.heap.size + 1, 0, none⟩ = some (.int .i64 0) := (blk_cell k2 0).trans rfl; have hfz0 := blk_frozen k2 0; have hcz1 : w8.cell? ⟨w.heap.size + 1, 1, none⟩ = some (.int .i64 0) := (blk_cell k2 1).trans rfl; have hfz1 := blk_frozen k2 1; have hcz2 : w8.cell? ⟨w.heap.size + 1, 2, none⟩ = some (.bool false) := (blk_cell k2 2).trans rfl; have hfz2 := blk_frozen k2 2; have hcz3 : w8.cell? ⟨w.heap.size + 1, 3, none⟩ = some (.int .i64 0) := (blk_cell k2 3).trans rfl; have hfz3 := blk_frozen k2 3; have hcz4 : w8.cell? ⟨w.heap.size + 1, 4, none⟩ = some (.string (⟨#[]⟩ : ByteArray)) := (blk_cell k2 4).trans rfl; have hfz4 := blk_frozen k2 4; have hcv0 : w8.cell? ⟨w.heap.size + 1 + 1, 0, none⟩ = some (.int .i64 2) := (blk_cell k3 0).trans rfl; have hfv0 := blk_frozen k3 0; have hcv1 : w8.cell? ⟨w.heap.size + 1 + 1, 1, none⟩ = some (.int .i64 t1) := (blk_cell k3 1).trans rfl; have hfv1 := blk_frozen k3 1; have hcv2 : w8.cell? ⟨w.heap.size + 1 + 1, 2, none⟩ = some (.bool false) := (blk_cell k3 2).trans rfl; have hfv2 := blk_frozen k3 2; have hcv3 : w8.cell? ⟨w.heap.size + 1 + 1, 3, none⟩ = some (.int .i64 0) := (blk_cell k3 3).trans rfl; have hfv3 := blk_frozen k3 3; have hcv4 : w8.cell? ⟨w.heap.size + 1 + 1, 4, none⟩ = some (.string (⟨#[]⟩ : ByteArray)) := (blk_cell k3 4).trans rfl; have hfv4 := blk_frozen k3 4; have n0_ := Aside0.mk (below_step zE10_1 hb); clear HB; have HB := n0_; clear n0_; clear hb))
 refine bodyPost_ret (results_ct rfl _ _ (w.heap.size + 1) 25 #[.int .i64 2, .int .i64 t1, .bool false, .int .i64 n, .string (⟨#[]⟩ : ByteArray)] (0, 0) _ rfl (by (with_reducible repeat (first | refine blk_drewN ?_ _ | refine blk_drew ?_)); refine blk_put (cs := #[.int .i64 2, .int .i64 t1, .bool false, .int .i64 n, .string (⟨#[]⟩ : ByteArray)]) ?_ 4 _ rfl; (with_reducible repeat (first | refine blk_drewN ?_ _ | refine blk_drew ?_)); refine blk_put (cs := #[.int .i64 2, .int .i64 t1, .bool false, .int .i64 0, .string (⟨#[]⟩ : ByteArray)]) ?_ 3 _ rfl; (with_reducible repeat (first | refine blk_drewN ?_ _ | refine blk_drew ?_)); refine blk_put (cs := #[.int .i64 2, .int .i64 t1, .bool false, .int .i64 0, .string (⟨#[]⟩ : ByteArray)]) ?_ 2 _ rfl; (with_reducible repeat (first | refine blk_drewN ?_ _ | refine blk_drew ?_)); refine blk_put (cs := #[.int .i64 2, .int .i64 0, .bool false, .int .i64 0, .string (⟨#[]⟩ : ByteArray)]) ?_ 1 _ rfl; (with_reducible repeat (first | refine blk_drewN ?_ _ | refine blk_drew ?_)); refine blk_put (cs := #[.int .i64 0, .int .i64 0, .bool false, .int .i64 0, .string (⟨#[]⟩ : ByteArray)]) ?_ 0 _ rfl; (with_reducible repeat (first | refine blk_drewN ?_ _ | refine blk_drew ?_)); first | exact blk_alloc (colonnaderef02_read.new2 _ _ _) _ | exact k2 | exact colonnaderef02_read.other k2 _ _ _ zE10_6) Tryz.underlying25 rfl zE10_5) rfl ?_
 exact ⟨by first | rfl | (simp; done) | (simp [*]; done), by repeat (first | (with_reducible first | exact HB.out | apply below_alloc | apply pw_below_drewN | apply below_drew1 | refine below_set ?_ (Nat.le_succ _) | refine below_set ?_ (Nat.le_succ_of_le (Nat.le_succ _))) | exact HB.out)⟩
set_option maxHeartbeats 8000000 in
set_option maxRecDepth 100000 in
theorem colonnaderef02_read.intNo (k : Nat) (a0 : ByteArray) (n e : Int) (t1 : Int) (w : World) (h1 : colonnaderef01_ParseInt.f k a0 = some (n, e)) (c1 : ¬ e = 0) :
  Calls Tryz.prog 22 #[.string a0, .agg #[.int .i64 2, .int .i64 t1]] w fun e w' => e = .returned (.tuple #[.agg #[.int .i64 0, .int .i64 0, .bool false, .int .i64 0, .string (⟨#[]⟩ : ByteArray)], .int .i64 22]) ∧ Below w.heap.size w w' := by
 have hu25 := Tryz.underlying25
 have HB := Aside0.mk (Below.refl w.heap.size w)
 have A1 := Aside0.mk h1
 clear h1
 have c1a : (e == 0) = false := beq_eq_false_iff_ne.mpr c1
 have c1b : (e != 0) = true := bne_iff_ne.mpr c1
 clear c1
 go_enter Tryz.func22, Tryz.ntmps22
 go_wp2_with (first | (go_at_call 44; (with_reducible refine (colonnaderef01_ParseInt.calls k a0 n e _ A1.out).mono ?_); rintro e w8 ⟨rfl, hb⟩; have hb := colonnaderef02_read.bel hb; obtain ⟨k1, k2, k3⟩ := colonnaderef02_read.after3 hb; have hcb0 : w8.cell? ⟨w.heap.size, 0, none⟩ = some (.int .i64 2) := (blk_cell k1 0).trans rfl; have hcb1 : w8.cell? ⟨w.heap.size, 1, none⟩ = some (.int .i64 t1) := (blk_cell k1 1).trans rfl; have hcz0 : w8.cell? ⟨w.heap.size + 1, 0, none⟩ = some (.int .i64 0) := (blk_cell k2 0).trans rfl; have hfz0 := blk_frozen k2 0; have hcz1 : w8.cell? ⟨w.heap.size + 1, 1, none⟩ = some (.int .i64 0) := (blk_cell k2 1).trans rfl; have hfz1 := blk_frozen k2 1; have hcz2 : w8.cell? ⟨w.heap.size + 1, 2, none⟩ = some (.bool false) := (blk_cell k2 2).trans rfl; have hfz2 := blk_frozen k2 2; have hcz3 : w8.cell? ⟨w.heap.size + 1, 3, none⟩ = some (.int .i64 0) := (blk_cell k2 3).trans rfl; have hfz3 := blk_frozen k2 3; have hcz4 : w8.cell? ⟨w.heap.size + 1, 4, none⟩ = some (.string (⟨#[]⟩ : ByteArray)) := (blk_cell k2 4).trans rfl; have hfz4 := blk_frozen k2 4; have hcv0 : w8.cell? ⟨w.heap.size + 1 + 1, 0, none⟩ = some (.int .i64 2) := (blk_cell k3 0).trans rfl; have hfv0 := blk_frozen k3 0; have hcv1 : w8.cell? ⟨w.heap.size + 1 + 1, 1, none⟩ = some (.int .i64 t1) := (blk_cell k3 1).trans rfl; have hfv1 := blk_frozen k3 1; have hcv2 : w8.cell? ⟨w.heap.size + 1 + 1, 2, none⟩ = some (.bool false) := (blk_cell k3 2).trans rfl; have hfv2 := blk_frozen k3 2; have hcv3 : w8.cell? ⟨w.heap.size + 1 + 1, 3, none⟩ = some (.int .i64 0) := (blk_cell k3 3).trans rfl; have hfv3 := blk_frozen k3 3; have hcv4 : w8.cell? ⟨w.heap.size + 1 + 1, 4, none⟩ = some (.string (⟨#[]⟩ : ByteArray)) := (blk_cell k3 4).trans rfl; have hfv4 := blk_frozen k3 4; have n0_ := Aside0.mk (below_step zE10_1 hb); clear HB; have HB := n0_; clear n0_; clear hb))
 refine bodyPost_ret (results_ct rfl _ _ (w.heap.size + 1) 25 #[.int .i64 0, .int .i64 0, .bool false, .int .i64 0, .string (⟨#[]⟩ : ByteArray)] (0, 0) _ rfl zE10_0 Tryz.underlying25 rfl zE10_5) rfl ?_
 exact ⟨by first | rfl | (simp; done) | (simp [*]; done), by repeat (first | (with_reducible first | exact HB.out | apply below_alloc | apply pw_below_drewN | apply below_drew1 | refine below_set ?_ (Nat.le_succ _) | refine below_set ?_ (Nat.le_succ_of_le (Nat.le_succ _))) | exact HB.out)⟩
set_option maxHeartbeats 8000000 in
set_option maxRecDepth 100000 in
theorem colonnaderef02_read.dayOk (k : Nat) (a0 : ByteArray) (n : Int) (t1 : Int) (w : World) (h1 : colonnaderef01_ParseDay.f k a0 = some (n, 0)) :
  Calls Tryz.prog 22 #[.string a0, .agg #[.int .i64 5, .int .i64 t1]] w fun e w' => e = .returned (.tuple #[.agg #[.int .i64 5, .int .i64 t1, .bool false, .int .i64 n, .string (⟨#[]⟩ : ByteArray)], .int .i64 0]) ∧ Below w.heap.size w w' := by
 have hu25 := Tryz.underlying25
 have HB := Aside0.mk (Below.refl w.heap.size w)
 have A1 := Aside0.mk h1
 clear h1
 go_enter Tryz.func22, Tryz.ntmps22
 go_wp2_with (first | (go_at_call 46; (with_reducible refine (colonnaderef01_ParseDay.calls k a0 n 0 _ A1.out).mono ?_); rintro e w8 ⟨rfl, hb⟩; have hb := colonnaderef02_read.bel hb; obtain ⟨k1, k2, k3⟩ := colonnaderef02_read.after3 hb; have hcb0 : w8.cell? ⟨w.heap.size, 0, none⟩ = some (.int .i64 5) := (blk_cell k1 0).trans rfl; have hcb1 : w8.cell? ⟨w.heap.size, 1, none⟩ = some (.int .i64 t1) := (blk_cell k1 1).trans rfl; have hcz0 : w8.cell? ⟨w.heap.size + 1, 0, none⟩ = some (.int .i64 0) := (blk_cell k2 0).trans rfl; have hfz0 := blk_frozen k2 0; have hcz1 : w8.cell? ⟨w.heap.size + 1, 1, none⟩ = some (.int .i64 0) := (blk_cell k2 1).trans rfl; have hfz1 := blk_frozen k2 1; have hcz2 : w8.cell? ⟨w.heap.size + 1, 2, none⟩ = some (.bool false) := (blk_cell k2 2).trans rfl; have hfz2 := blk_frozen k2 2; have hcz3 : w8.cell? ⟨w.heap.size + 1, 3, none⟩ = some (.int .i64 0) := (blk_cell k2 3).trans rfl; have hfz3 := blk_frozen k2 3; have hcz4 : w8.cell? ⟨w.heap.size + 1, 4, none⟩ = some (.string (⟨#[]⟩ : ByteArray)) := (blk_cell k2 4).trans rfl; have hfz4 := blk_frozen k2 4; have hcv0 : w8.cell? ⟨w.heap.size + 1 + 1, 0, none⟩ = some (.int .i64 5) := (blk_cell k3 0).trans rfl; have hfv0 := blk_frozen k3 0; have hcv1 : w8.cell? ⟨w.heap.size + 1 + 1, 1, none⟩ = some (.int .i64 t1) := (blk_cell k3 1).trans rfl; have hfv1 := blk_frozen k3 1; have hcv2 : w8.cell? ⟨w.heap.size + 1 + 1, 2, none⟩ = some (.bool false) := (blk_cell k3 2).trans rfl; have hfv2 := blk_frozen k3 2; have hcv3 : w8.cell? ⟨w.heap.size + 1 + 1, 3, none⟩ = some (.int .i64 0) := (blk_cell k3 3).trans rfl; have hfv3 := blk_frozen k3 3; have hcv4 : w8.cell? ⟨w.heap.size + 1 + 1, 4, none⟩ = some (.string (⟨#[]⟩ : ByteArray)) := (blk_cell k3 4).trans rfl; have hfv4 := blk_frozen k3 4; have n0_ := Aside0.mk (below_step zE10_1 hb); clear HB; have HB := n0_; clear n0_; clear hb))
 refine bodyPost_ret (results_ct rfl _ _ (w.heap.size + 1) 25 #[.int .i64 5, .int .i64 t1, .bool false, .int .i64 n, .string (⟨#[]⟩ : ByteArray)] (0, 0) _ rfl (by (with_reducible repeat (first | refine blk_drewN ?_ _ | refine blk_drew ?_)); refine blk_put (cs := #[.int .i64 5, .int .i64 t1, .bool false, .int .i64 n, .string (⟨#[]⟩ : ByteArray)]) ?_ 4 _ rfl; (with_reducible repeat (first | refine blk_drewN ?_ _ | refine blk_drew ?_)); refine blk_put (cs := #[.int .i64 5, .int .i64 t1, .bool false, .int .i64 0, .string (⟨#[]⟩ : ByteArray)]) ?_ 3 _ rfl; (with_reducible repeat (first | refine blk_drewN ?_ _ | refine blk_drew ?_)); refine blk_put (cs := #[.int .i64 5, .int .i64 t1, .bool false, .int .i64 0, .string (⟨#[]⟩ : ByteArray)]) ?_ 2 _ rfl; (with_reducible repeat (first | refine blk_drewN ?_ _ | refine blk_drew ?_)); refine blk_put (cs := #[.int .i64 5, .int .i64 0, .bool false, .int .i64 0, .string (⟨#[]⟩ : ByteArray)]) ?_ 1 _ rfl; (with_reducible repeat (first | refine blk_drewN ?_ _ | refine blk_drew ?_)); refine blk_put (cs := #[.int .i64 0, .int .i64 0, .bool false, .int .i64 0, .string (⟨#[]⟩ : ByteArray)]) ?_ 0 _ rfl; (with_reducible repeat (first | refine blk_drewN ?_ _ | refine blk_drew ?_)); first | exact blk_alloc (colonnaderef02_read.new2 _ _ _) _ | exact k2 | exact colonnaderef02_read.other k2 _ _ _ zE10_6) Tryz.underlying25 rfl zE10_5) rfl ?_
 exact ⟨by first | rfl | (simp; done) | (simp [*]; done), by repeat (first | (with_reducible first | exact HB.out | apply below_alloc | apply pw_below_drewN | apply below_drew1 | refine below_set ?_ (Nat.le_succ _) | refine below_set ?_ (Nat.le_succ_of_le (Nat.le_succ _))) | exact HB.out)⟩
set_option maxHeartbeats 8000000 in
set_option maxRecDepth 100000 in
theorem colonnaderef02_read.dayNo (k : Nat) (a0 : ByteArray) (n e : Int) (t1 : Int) (w : World) (h1 : colonnaderef01_ParseDay.f k a0 = some (n, e)) (c1 : ¬ e = 0) :
  Calls Tryz.prog 22 #[.string a0, .agg #[.int .i64 5, .int .i64 t1]] w fun e w' => e = .returned (.tuple #[.agg #[.int .i64 0, .int .i64 0, .bool false, .int .i64 0, .string (⟨#[]⟩ : ByteArray)], .int .i64 22]) ∧ Below w.heap.size w w' := by
 have hu25 := Tryz.underlying25
 have HB := Aside0.mk (Below.refl w.heap.size w)
 have A1 := Aside0.mk h1
 clear h1
 have c1a : (e == 0) = false := beq_eq_false_iff_ne.mpr c1
 have c1b : (e != 0) = true := bne_iff_ne.mpr c1
 clear c1
 go_enter Tryz.func22, Tryz.ntmps22
 go_wp2_with (first | (go_at_call 46; (with_reducible refine (colonnaderef01_ParseDay.calls k a0 n e _ A1.out).mono ?_); rintro e w8 ⟨rfl, hb⟩; have hb := colonnaderef02_read.bel hb; obtain ⟨k1, k2, k3⟩ := colonnaderef02_read.after3 hb; have hcb0 : w8.cell? ⟨w.heap.size, 0, none⟩ = some (.int .i64 5) := (blk_cell k1 0).trans rfl; have hcb1 : w8.cell? ⟨w.heap.size, 1, none⟩ = some (.int .i64 t1) := (blk_cell k1 1).trans rfl; have hcz0 : w8.cell? ⟨w.heap.size + 1, 0, none⟩ = some (.int .i64 0) := (blk_cell k2 0).trans rfl; have hfz0 := blk_frozen k2 0; have hcz1 : w8.cell? ⟨w.heap.size + 1, 1, none⟩ = some (.int .i64 0) := (blk_cell k2 1).trans rfl; have hfz1 := blk_frozen k2 1; have hcz2 : w8.cell? ⟨w.heap.size + 1, 2, none⟩ = some (.bool false) := (blk_cell k2 2).trans rfl; have hfz2 := blk_frozen k2 2; have hcz3 : w8.cell? ⟨w.heap.size + 1, 3, none⟩ = some (.int .i64 0) := (blk_cell k2 3).trans rfl; have hfz3 := blk_frozen k2 3; have hcz4 : w8.cell? ⟨w.heap.size + 1, 4, none⟩ = some (.string (⟨#[]⟩ : ByteArray)) := (blk_cell k2 4).trans rfl; have hfz4 := blk_frozen k2 4; have hcv0 : w8.cell? ⟨w.heap.size + 1 + 1, 0, none⟩ = some (.int .i64 5) := (blk_cell k3 0).trans rfl; have hfv0 := blk_frozen k3 0; have hcv1 : w8.cell? ⟨w.heap.size + 1 + 1, 1, none⟩ = some (.int .i64 t1) := (blk_cell k3 1).trans rfl; have hfv1 := blk_frozen k3 1; have hcv2 : w8.cell? ⟨w.heap.size + 1 + 1, 2, none⟩ = some (.bool false) := (blk_cell k3 2).trans rfl; have hfv2 := blk_frozen k3 2; have hcv3 : w8.cell? ⟨w.heap.size + 1 + 1, 3, none⟩ = some (.int .i64 0) := (blk_cell k3 3).trans rfl; have hfv3 := blk_frozen k3 3; have hcv4 : w8.cell? ⟨w.heap.size + 1 + 1, 4, none⟩ = some (.string (⟨#[]⟩ : ByteArray)) := (blk_cell k3 4).trans rfl; have hfv4 := blk_frozen k3 4; have n0_ := Aside0.mk (below_step zE10_1 hb); clear HB; have HB := n0_; clear n0_; clear hb))
 refine bodyPost_ret (results_ct rfl _ _ (w.heap.size + 1) 25 #[.int .i64 0, .int .i64 0, .bool false, .int .i64 0, .string (⟨#[]⟩ : ByteArray)] (0, 0) _ rfl zE10_0 Tryz.underlying25 rfl zE10_5) rfl ?_
 exact ⟨by first | rfl | (simp; done) | (simp [*]; done), by repeat (first | (with_reducible first | exact HB.out | apply below_alloc | apply pw_below_drewN | apply below_drew1 | refine below_set ?_ (Nat.le_succ _) | refine below_set ?_ (Nat.le_succ_of_le (Nat.le_succ _))) | exact HB.out)⟩
set_option maxHeartbeats 8000000 in
set_option maxRecDepth 100000 in
theorem colonnaderef02_read.decNo (k : Nat) (a0 : ByteArray) (n s e : Int) (t1 : Int) (w : World) (h1 : colonnaderef01_ParseDec.f k a0 = some (n, s, e)) (c1 : ¬ e = 0) :
  Calls Tryz.prog 22 #[.string a0, .agg #[.int .i64 3, .int .i64 t1]] w fun e w' => e = .returned (.tuple #[.agg #[.int .i64 0, .int .i64 0, .bool false, .int .i64 0, .string (⟨#[]⟩ : ByteArray)], .int .i64 22]) ∧ Below w.heap.size w w' := by
 have hu25 := Tryz.underlying25
 have HB := Aside0.mk (Below.refl w.heap.size w)
 have A1 := Aside0.mk h1
 clear h1
 have c1a : (e == 0) = false := beq_eq_false_iff_ne.mpr c1
 have c1b : (e != 0) = true := bne_iff_ne.mpr c1
 clear c1
 go_enter Tryz.func22, Tryz.ntmps22
 go_wp2_with (first | (go_at_call 45; (with_reducible refine (colonnaderef01_ParseDec.calls k a0 n s e _ A1.out).mono ?_); rintro e w8 ⟨rfl, hb⟩; have hb := colonnaderef02_read.bel hb; obtain ⟨k1, k2, k3⟩ := colonnaderef02_read.after3 hb; have hcb0 : w8.cell? ⟨w.heap.size, 0, none⟩ = some (.int .i64 3) := (blk_cell k1 0).trans rfl; have hcb1 : w8.cell? ⟨w.heap.size, 1, none⟩ = some (.int .i64 t1) := (blk_cell k1 1).trans rfl; have hcz0 : w8.cell? ⟨w.heap.size + 1, 0, none⟩ = some (.int .i64 0) := (blk_cell k2 0).trans rfl; have hfz0 := blk_frozen k2 0; have hcz1 : w8.cell? ⟨w.heap.size + 1, 1, none⟩ = some (.int .i64 0) := (blk_cell k2 1).trans rfl; have hfz1 := blk_frozen k2 1; have hcz2 : w8.cell? ⟨w.heap.size + 1, 2, none⟩ = some (.bool false) := (blk_cell k2 2).trans rfl; have hfz2 := blk_frozen k2 2; have hcz3 : w8.cell? ⟨w.heap.size + 1, 3, none⟩ = some (.int .i64 0) := (blk_cell k2 3).trans rfl; have hfz3 := blk_frozen k2 3; have hcz4 : w8.cell? ⟨w.heap.size + 1, 4, none⟩ = some (.string (⟨#[]⟩ : ByteArray)) := (blk_cell k2 4).trans rfl; have hfz4 := blk_frozen k2 4; have hcv0 : w8.cell? ⟨w.heap.size + 1 + 1, 0, none⟩ = some (.int .i64 3) := (blk_cell k3 0).trans rfl; have hfv0 := blk_frozen k3 0; have hcv1 : w8.cell? ⟨w.heap.size + 1 + 1, 1, none⟩ = some (.int .i64 t1) := (blk_cell k3 1).trans rfl; have hfv1 := blk_frozen k3 1; have hcv2 : w8.cell? ⟨w.heap.size + 1 + 1, 2, none⟩ = some (.bool false) := (blk_cell k3 2).trans rfl; have hfv2 := blk_frozen k3 2; have hcv3 : w8.cell? ⟨w.heap.size + 1 + 1, 3, none⟩ = some (.int .i64 0) := (blk_cell k3 3).trans rfl; have hfv3 := blk_frozen k3 3; have hcv4 : w8.cell? ⟨w.heap.size + 1 + 1, 4, none⟩ = some (.string (⟨#[]⟩ : ByteArray)) := (blk_cell k3 4).trans rfl; have hfv4 := blk_frozen k3 4; have n0_ := Aside0.mk (below_step zE10_1 hb); clear HB; have HB := n0_; clear n0_; clear hb))
 refine bodyPost_ret (results_ct rfl _ _ (w.heap.size + 1) 25 #[.int .i64 0, .int .i64 0, .bool false, .int .i64 0, .string (⟨#[]⟩ : ByteArray)] (0, 0) _ rfl zE10_0 Tryz.underlying25 rfl zE10_5) rfl ?_
 exact ⟨by first | rfl | (simp; done) | (simp [*]; done), by repeat (first | (with_reducible first | exact HB.out | apply below_alloc | apply pw_below_drewN | apply below_drew1 | refine below_set ?_ (Nat.le_succ _) | refine below_set ?_ (Nat.le_succ_of_le (Nat.le_succ _))) | exact HB.out)⟩
set_option maxHeartbeats 8000000 in
set_option maxRecDepth 100000 in
theorem colonnaderef02_read.decOk (k : Nat) (a0 : ByteArray) (n s m : Int) (t1 : Int) (w : World) (h1 : colonnaderef01_ParseDec.f k a0 = some (n, s, 0)) (h2 : colonnaderef01_Scale.f k n s t1 = some (m, 0)) :
  Calls Tryz.prog 22 #[.string a0, .agg #[.int .i64 3, .int .i64 t1]] w fun e w' => e = .returned (.tuple #[.agg #[.int .i64 3, .int .i64 t1, .bool false, .int .i64 m, .string (⟨#[]⟩ : ByteArray)], .int .i64 0]) ∧ Below w.heap.size w w' := by
 have hu25 := Tryz.underlying25
 have HB := Aside0.mk (Below.refl w.heap.size w)
 have A1 := Aside0.mk h1
 have A2 := Aside0.mk h2
 clear h1 h2
 go_enter Tryz.func22, Tryz.ntmps22
 go_wp2_with (first | (go_at_call 45; (with_reducible refine (colonnaderef01_ParseDec.calls k a0 n s 0 _ A1.out).mono ?_); rintro e w8 ⟨rfl, hb⟩; have hb := colonnaderef02_read.bel hb; obtain ⟨k1, k2, k3⟩ := colonnaderef02_read.after3 hb; have hcb0 : w8.cell? ⟨w.heap.size, 0, none⟩ = some (.int .i64 3) := (blk_cell k1 0).trans rfl; have hcb1 : w8.cell? ⟨w.heap.size, 1, none⟩ = some (.int .i64 t1) := (blk_cell k1 1).trans rfl; have hcz0 : w8.cell? ⟨w.heap.size + 1, 0, none⟩ = some (.int .i64 0) := (blk_cell k2 0).trans rfl; have hfz0 := blk_frozen k2 0; have hcz1 : w8.cell? ⟨w.heap.size + 1, 1, none⟩ = some (.int .i64 0) := (blk_cell k2 1).trans rfl; have hfz1 := blk_frozen k2 1; have hcz2 : w8.cell? ⟨w.heap.size + 1, 2, none⟩ = some (.bool false) := (blk_cell k2 2).trans rfl; have hfz2 := blk_frozen k2 2; have hcz3 : w8.cell? ⟨w.heap.size + 1, 3, none⟩ = some (.int .i64 0) := (blk_cell k2 3).trans rfl; have hfz3 := blk_frozen k2 3; have hcz4 : w8.cell? ⟨w.heap.size + 1, 4, none⟩ = some (.string (⟨#[]⟩ : ByteArray)) := (blk_cell k2 4).trans rfl; have hfz4 := blk_frozen k2 4; have hcv0 : w8.cell? ⟨w.heap.size + 1 + 1, 0, none⟩ = some (.int .i64 3) := (blk_cell k3 0).trans rfl; have hfv0 := blk_frozen k3 0; have hcv1 : w8.cell? ⟨w.heap.size + 1 + 1, 1, none⟩ = some (.int .i64 t1) := (blk_cell k3 1).trans rfl; have hfv1 := blk_frozen k3 1; have hcv2 : w8.cell? ⟨w.heap.size + 1 + 1, 2, none⟩ = some (.bool false) := (blk_cell k3 2).trans rfl; have hfv2 := blk_frozen k3 2; have hcv3 : w8.cell? ⟨w.heap.size + 1 + 1, 3, none⟩ = some (.int .i64 0) := (blk_cell k3 3).trans rfl; have hfv3 := blk_frozen k3 3; have hcv4 : w8.cell? ⟨w.heap.size + 1 + 1, 4, none⟩ = some (.string (⟨#[]⟩ : ByteArray)) := (blk_cell k3 4).trans rfl; have hfv4 := blk_frozen k3 4; have n0_ := Aside0.mk (below_step zE10_1 hb); clear HB; have HB := n0_; clear n0_; clear hb) | (go_at_call 23; (with_reducible refine (colonnaderef01_Scale.calls k n s t1 m 0 _ A2.out).mono ?_); rintro e w9 ⟨rfl, hb⟩; have hb := colonnaderef02_read.bel hb; replace k1 := blk_below k1 hb; replace k2 := blk_below k2 hb; replace k3 := blk_below k3 hb; have hcb0 : w9.cell? ⟨w.heap.size, 0, none⟩ = some (.int .i64 3) := (blk_cell k1 0).trans rfl; have hcb1 : w9.cell? ⟨w.heap.size, 1, none⟩ = some (.int .i64 t1) := (blk_cell k1 1).trans rfl; have hcz0 : w9.cell? ⟨w.heap.size + 1, 0, none⟩ = some (.int .i64 0) := (blk_cell k2 0).trans rfl; have hfz0 := blk_frozen k2 0; have hcz1 : w9.cell? ⟨w.heap.size + 1, 1, none⟩ = some (.int .i64 0) := (blk_cell k2 1).trans rfl; have hfz1 := blk_frozen k2 1; have hcz2 : w9.cell? ⟨w.heap.size + 1, 2, none⟩ = some (.bool false) := (blk_cell k2 2).trans rfl; have hfz2 := blk_frozen k2 2; have hcz3 : w9.cell? ⟨w.heap.size + 1, 3, none⟩ = some (.int .i64 0) := (blk_cell k2 3).trans rfl; have hfz3 := blk_frozen k2 3; have hcz4 : w9.cell? ⟨w.heap.size + 1, 4, none⟩ = some (.string (⟨#[]⟩ : ByteArray)) := (blk_cell k2 4).trans rfl; have hfz4 := blk_frozen k2 4; have hcv0 : w9.cell? ⟨w.heap.size + 1 + 1, 0, none⟩ = some (.int .i64 3) := (blk_cell k3 0).trans rfl; have hfv0 := blk_frozen k3 0; have hcv1 : w9.cell? ⟨w.heap.size + 1 + 1, 1, none⟩ = some (.int .i64 t1) := (blk_cell k3 1).trans rfl; have hfv1 := blk_frozen k3 1; have hcv2 : w9.cell? ⟨w.heap.size + 1 + 1, 2, none⟩ = some (.bool false) := (blk_cell k3 2).trans rfl; have hfv2 := blk_frozen k3 2; have hcv3 : w9.cell? ⟨w.heap.size + 1 + 1, 3, none⟩ = some (.int .i64 0) := (blk_cell k3 3).trans rfl; have hfv3 := blk_frozen k3 3; have hcv4 : w9.cell? ⟨w.heap.size + 1 + 1, 4, none⟩ = some (.string (⟨#[]⟩ : ByteArray)) := (blk_cell k3 4).trans rfl; have hfv4 := blk_frozen k3 4; have n0_ := Aside0.mk (below_step zE10_1 hb); clear HB; have HB := n0_; clear n0_; clear hb))
 refine bodyPost_ret (results_ct rfl _ _ (w.heap.size + 1) 25 #[.int .i64 3, .int .i64 t1, .bool false, .int .i64 m, .string (⟨#[]⟩ : ByteArray)] (0, 0) _ rfl (by (with_reducible repeat (first | refine blk_drewN ?_ _ | refine blk_drew ?_)); refine blk_put (cs := #[.int .i64 3, .int .i64 t1, .bool false, .int .i64 m, .string (⟨#[]⟩ : ByteArray)]) ?_ 4 _ rfl; (with_reducible repeat (first | refine blk_drewN ?_ _ | refine blk_drew ?_)); refine blk_put (cs := #[.int .i64 3, .int .i64 t1, .bool false, .int .i64 0, .string (⟨#[]⟩ : ByteArray)]) ?_ 3 _ rfl; (with_reducible repeat (first | refine blk_drewN ?_ _ | refine blk_drew ?_)); refine blk_put (cs := #[.int .i64 3, .int .i64 t1, .bool false, .int .i64 0, .string (⟨#[]⟩ : ByteArray)]) ?_ 2 _ rfl; (with_reducible repeat (first | refine blk_drewN ?_ _ | refine blk_drew ?_)); refine blk_put (cs := #[.int .i64 3, .int .i64 0, .bool false, .int .i64 0, .string (⟨#[]⟩ : ByteArray)]) ?_ 1 _ rfl; (with_reducible repeat (first | refine blk_drewN ?_ _ | refine blk_drew ?_)); refine blk_put (cs := #[.int .i64 0, .int .i64 0, .bool false, .int .i64 0, .string (⟨#[]⟩ : ByteArray)]) ?_ 0 _ rfl; (with_reducible repeat (first | refine blk_drewN ?_ _ | refine blk_drew ?_)); first | exact blk_alloc (colonnaderef02_read.new2 _ _ _) _ | exact k2 | exact colonnaderef02_read.other k2 _ _ _ zE10_6) Tryz.underlying25 rfl zE10_5) rfl ?_
 exact ⟨by first | rfl | (simp; done) | (simp [*]; done), by repeat (first | (with_reducible first | exact HB.out | apply below_alloc | apply pw_below_drewN | apply below_drew1 | refine below_set ?_ (Nat.le_succ _) | refine below_set ?_ (Nat.le_succ_of_le (Nat.le_succ _))) | exact HB.out)⟩
set_option maxHeartbeats 8000000 in
set_option maxRecDepth 100000 in
theorem colonnaderef02_read.decFar (k : Nat) (a0 : ByteArray) (n s m e : Int) (t1 : Int) (w : World) (h1 : colonnaderef01_ParseDec.f k a0 = some (n, s, 0)) (h2 : colonnaderef01_Scale.f k n s t1 = some (m, e)) (c1 : ¬ e = 0) :
  Calls Tryz.prog 22 #[.string a0, .agg #[.int .i64 3, .int .i64 t1]] w fun e w' => e = .returned (.tuple #[.agg #[.int .i64 0, .int .i64 0, .bool false, .int .i64 0, .string (⟨#[]⟩ : ByteArray)], .int .i64 22]) ∧ Below w.heap.size w w' := by
 have hu25 := Tryz.underlying25
 have HB := Aside0.mk (Below.refl w.heap.size w)
 have A1 := Aside0.mk h1
 have A2 := Aside0.mk h2
 clear h1 h2
 have c1a : (e == 0) = false := beq_eq_false_iff_ne.mpr c1
 have c1b : (e != 0) = true := bne_iff_ne.mpr c1
 clear c1
 go_enter Tryz.func22, Tryz.ntmps22
 go_wp2_with (first | (go_at_call 45; (with_reducible refine (colonnaderef01_ParseDec.calls k a0 n s 0 _ A1.out).mono ?_); rintro e w8 ⟨rfl, hb⟩; have hb := colonnaderef02_read.bel hb; obtain ⟨k1, k2, k3⟩ := colonnaderef02_read.after3 hb; have hcb0 : w8.cell? ⟨w.heap.size, 0, none⟩ = some (.int .i64 3) := (blk_cell k1 0).trans rfl; have hcb1 : w8.cell? ⟨w.heap.size, 1, none⟩ = some (.int .i64 t1) := (blk_cell k1 1).trans rfl; have hcz0 : w8.cell? ⟨w.heap.size + 1, 0, none⟩ = some (.int .i64 0) := (blk_cell k2 0).trans rfl; have hfz0 := blk_frozen k2 0; have hcz1 : w8.cell? ⟨w.heap.size + 1, 1, none⟩ = some (.int .i64 0) := (blk_cell k2 1).trans rfl; have hfz1 := blk_frozen k2 1; have hcz2 : w8.cell? ⟨w.heap.size + 1, 2, none⟩ = some (.bool false) := (blk_cell k2 2).trans rfl; have hfz2 := blk_frozen k2 2; have hcz3 : w8.cell? ⟨w.heap.size + 1, 3, none⟩ = some (.int .i64 0) := (blk_cell k2 3).trans rfl; have hfz3 := blk_frozen k2 3; have hcz4 : w8.cell? ⟨w.heap.size + 1, 4, none⟩ = some (.string (⟨#[]⟩ : ByteArray)) := (blk_cell k2 4).trans rfl; have hfz4 := blk_frozen k2 4; have hcv0 : w8.cell? ⟨w.heap.size + 1 + 1, 0, none⟩ = some (.int .i64 3) := (blk_cell k3 0).trans rfl; have hfv0 := blk_frozen k3 0; have hcv1 : w8.cell? ⟨w.heap.size + 1 + 1, 1, none⟩ = some (.int .i64 t1) := (blk_cell k3 1).trans rfl; have hfv1 := blk_frozen k3 1; have hcv2 : w8.cell? ⟨w.heap.size + 1 + 1, 2, none⟩ = some (.bool false) := (blk_cell k3 2).trans rfl; have hfv2 := blk_frozen k3 2; have hcv3 : w8.cell? ⟨w.heap.size + 1 + 1, 3, none⟩ = some (.int .i64 0) := (blk_cell k3 3).trans rfl; have hfv3 := blk_frozen k3 3; have hcv4 : w8.cell? ⟨w.heap.size + 1 + 1, 4, none⟩ = some (.string (⟨#[]⟩ : ByteArray)) := (blk_cell k3 4).trans rfl; have hfv4 := blk_frozen k3 4; have n0_ := Aside0.mk (below_step zE10_1 hb); clear HB; have HB := n0_; clear n0_; clear hb) | (go_at_call 23; (with_reducible refine (colonnaderef01_Scale.calls k n s t1 m e _ A2.out).mono ?_); rintro e w9 ⟨rfl, hb⟩; have hb := colonnaderef02_read.bel hb; replace k1 := blk_below k1 hb; replace k2 := blk_below k2 hb; replace k3 := blk_below k3 hb; have hcb0 : w9.cell? ⟨w.heap.size, 0, none⟩ = some (.int .i64 3) := (blk_cell k1 0).trans rfl; have hcb1 : w9.cell? ⟨w.heap.size, 1, none⟩ = some (.int .i64 t1) := (blk_cell k1 1).trans rfl; have hcz0 : w9.cell? ⟨w.heap.size + 1, 0, none⟩ = some (.int .i64 0) := (blk_cell k2 0).trans rfl; have hfz0 := blk_frozen k2 0; have hcz1 : w9.cell? ⟨w.heap.size + 1, 1, none⟩ = some (.int .i64 0) := (blk_cell k2 1).trans rfl; have hfz1 := blk_frozen k2 1; have hcz2 : w9.cell? ⟨w.heap.size + 1, 2, none⟩ = some (.bool false) := (blk_cell k2 2).trans rfl; have hfz2 := blk_frozen k2 2; have hcz3 : w9.cell? ⟨w.heap.size + 1, 3, none⟩ = some (.int .i64 0) := (blk_cell k2 3).trans rfl; have hfz3 := blk_frozen k2 3; have hcz4 : w9.cell? ⟨w.heap.size + 1, 4, none⟩ = some (.string (⟨#[]⟩ : ByteArray)) := (blk_cell k2 4).trans rfl; have hfz4 := blk_frozen k2 4; have hcv0 : w9.cell? ⟨w.heap.size + 1 + 1, 0, none⟩ = some (.int .i64 3) := (blk_cell k3 0).trans rfl; have hfv0 := blk_frozen k3 0; have hcv1 : w9.cell? ⟨w.heap.size + 1 + 1, 1, none⟩ = some (.int .i64 t1) := (blk_cell k3 1).trans rfl; have hfv1 := blk_frozen k3 1; have hcv2 : w9.cell? ⟨w.heap.size + 1 + 1, 2, none⟩ = some (.bool false) := (blk_cell k3 2).trans rfl; have hfv2 := blk_frozen k3 2; have hcv3 : w9.cell? ⟨w.heap.size + 1 + 1, 3, none⟩ = some (.int .i64 0) := (blk_cell k3 3).trans rfl; have hfv3 := blk_frozen k3 3; have hcv4 : w9.cell? ⟨w.heap.size + 1 + 1, 4, none⟩ = some (.string (⟨#[]⟩ : ByteArray)) := (blk_cell k3 4).trans rfl; have hfv4 := blk_frozen k3 4; have n0_ := Aside0.mk (below_step zE10_1 hb); clear HB; have HB := n0_; clear n0_; clear hb))
 refine bodyPost_ret (results_ct rfl _ _ (w.heap.size + 1) 25 #[.int .i64 0, .int .i64 0, .bool false, .int .i64 0, .string (⟨#[]⟩ : ByteArray)] (0, 0) _ rfl zE10_0 Tryz.underlying25 rfl zE10_5) rfl ?_
 exact ⟨by first | rfl | (simp; done) | (simp [*]; done), by repeat (first | (with_reducible first | exact HB.out | apply below_alloc | apply pw_below_drewN | apply below_drew1 | refine below_set ?_ (Nat.le_succ _) | refine below_set ?_ (Nat.le_succ_of_le (Nat.le_succ _))) | exact HB.out)⟩
set_option maxHeartbeats 8000000 in
set_option maxRecDepth 100000 in
theorem colonnaderef02_read.true_ (a0 c : ByteArray) (t1 : Int) (w : World) (h1 : colonnaderef02_upper.f a0 = some c) (c1 : c.toList = ([84, 82, 85, 69] : List UInt8)) :
  Calls Tryz.prog 22 #[.string a0, .agg #[.int .i64 1, .int .i64 t1]] w fun e w' => e = .returned (.tuple #[.agg #[.int .i64 1, .int .i64 t1, .bool false, .int .i64 1, .string (⟨#[]⟩ : ByteArray)], .int .i64 0]) ∧ Below w.heap.size w w' := by
 have hu25 := Tryz.underlying25
 have HB := Aside0.mk (Below.refl w.heap.size w)
 have A1 := Aside0.mk h1
 clear h1
 have c1a : (c.toList == ([84, 82, 85, 69] : List UInt8)) = true := beq_iff_eq.mpr c1
 have c1b : (c.toList != ([84, 82, 85, 69] : List UInt8)) = false := bne_eq_false_iff_eq.mpr c1
 clear c1
 go_enter Tryz.func22, Tryz.ntmps22
 go_wp2_with (first | (go_at_call 43; (with_reducible refine (colonnaderef02_upper.calls a0 c _ A1.out).mono ?_); rintro e w8 ⟨rfl, hb⟩; obtain ⟨k1, k2, k3⟩ := colonnaderef02_read.after3 hb; have hcb0 : w8.cell? ⟨w.heap.size, 0, none⟩ = some (.int .i64 1) := (blk_cell k1 0).trans rfl; have hcb1 : w8.cell? ⟨w.heap.size, 1, none⟩ = some (.int .i64 t1) := (blk_cell k1 1).trans rfl; have hcz0 : w8.cell? ⟨w.heap.size + 1, 0, none⟩ = some (.int .i64 0) := (blk_cell k2 0).trans rfl; have hfz0 := blk_frozen k2 0; have hcz1 : w8.cell? ⟨w.heap.size + 1, 1, none⟩ = some (.int .i64 0) := (blk_cell k2 1).trans rfl; have hfz1 := blk_frozen k2 1; have hcz2 : w8.cell? ⟨w.heap.size + 1, 2, none⟩ = some (.bool false) := (blk_cell k2 2).trans rfl; have hfz2 := blk_frozen k2 2; have hcz3 : w8.cell? ⟨w.heap.size + 1, 3, none⟩ = some (.int .i64 0) := (blk_cell k2 3).trans rfl; have hfz3 := blk_frozen k2 3; have hcz4 : w8.cell? ⟨w.heap.size + 1, 4, none⟩ = some (.string (⟨#[]⟩ : ByteArray)) := (blk_cell k2 4).trans rfl; have hfz4 := blk_frozen k2 4; have hcv0 : w8.cell? ⟨w.heap.size + 1 + 1, 0, none⟩ = some (.int .i64 1) := (blk_cell k3 0).trans rfl; have hfv0 := blk_frozen k3 0; have hcv1 : w8.cell? ⟨w.heap.size + 1 + 1, 1, none⟩ = some (.int .i64 t1) := (blk_cell k3 1).trans rfl; have hfv1 := blk_frozen k3 1; have hcv2 : w8.cell? ⟨w.heap.size + 1 + 1, 2, none⟩ = some (.bool false) := (blk_cell k3 2).trans rfl; have hfv2 := blk_frozen k3 2; have hcv3 : w8.cell? ⟨w.heap.size + 1 + 1, 3, none⟩ = some (.int .i64 0) := (blk_cell k3 3).trans rfl; have hfv3 := blk_frozen k3 3; have hcv4 : w8.cell? ⟨w.heap.size + 1 + 1, 4, none⟩ = some (.string (⟨#[]⟩ : ByteArray)) := (blk_cell k3 4).trans rfl; have hfv4 := blk_frozen k3 4; have n0_ := Aside0.mk (below_step zE10_1 hb); clear HB; have HB := n0_; clear n0_; clear hb))
 refine bodyPost_ret (results_ct rfl _ _ (w.heap.size + 1) 25 #[.int .i64 1, .int .i64 t1, .bool false, .int .i64 1, .string (⟨#[]⟩ : ByteArray)] (0, 0) _ rfl (by (with_reducible repeat (first | refine blk_drewN ?_ _ | refine blk_drew ?_)); refine blk_put (cs := #[.int .i64 1, .int .i64 t1, .bool false, .int .i64 1, .string (⟨#[]⟩ : ByteArray)]) ?_ 4 _ rfl; (with_reducible repeat (first | refine blk_drewN ?_ _ | refine blk_drew ?_)); refine blk_put (cs := #[.int .i64 1, .int .i64 t1, .bool false, .int .i64 0, .string (⟨#[]⟩ : ByteArray)]) ?_ 3 _ rfl; (with_reducible repeat (first | refine blk_drewN ?_ _ | refine blk_drew ?_)); refine blk_put (cs := #[.int .i64 1, .int .i64 t1, .bool false, .int .i64 0, .string (⟨#[]⟩ : ByteArray)]) ?_ 2 _ rfl; (with_reducible repeat (first | refine blk_drewN ?_ _ | refine blk_drew ?_)); refine blk_put (cs := #[.int .i64 1, .int .i64 0, .bool false, .int .i64 0, .string (⟨#[]⟩ : ByteArray)]) ?_ 1 _ rfl; (with_reducible repeat (first | refine blk_drewN ?_ _ | refine blk_drew ?_)); refine blk_put (cs := #[.int .i64 0, .int .i64 0, .bool false, .int .i64 0, .string (⟨#[]⟩ : ByteArray)]) ?_ 0 _ rfl; (with_reducible repeat (first | refine blk_drewN ?_ _ | refine blk_drew ?_)); first | exact blk_alloc (colonnaderef02_read.new2 _ _ _) _ | exact k2 | exact colonnaderef02_read.other k2 _ _ _ zE10_6) Tryz.underlying25 rfl zE10_5) rfl ?_
 exact ⟨by first | rfl | (simp; done) | (simp [*]; done), by repeat (first | (with_reducible first | exact HB.out | apply below_alloc | apply pw_below_drewN | apply below_drew1 | refine below_set ?_ (Nat.le_succ _) | refine below_set ?_ (Nat.le_succ_of_le (Nat.le_succ _))) | exact HB.out)⟩
set_option maxHeartbeats 8000000 in
set_option maxRecDepth 100000 in
theorem colonnaderef02_read.false_ (a0 c : ByteArray) (t1 : Int) (w : World) (h1 : colonnaderef02_upper.f a0 = some c) (c1 : ¬ c.toList = ([84, 82, 85, 69] : List UInt8)) (c2 : c.toList = ([70, 65, 76, 83, 69] : List UInt8)) :
  Calls Tryz.prog 22 #[.string a0, .agg #[.int .i64 1, .int .i64 t1]] w fun e w' => e = .returned (.tuple #[.agg #[.int .i64 1, .int .i64 t1, .bool false, .int .i64 0, .string (⟨#[]⟩ : ByteArray)], .int .i64 0]) ∧ Below w.heap.size w w' := by
 have hu25 := Tryz.underlying25
 have HB := Aside0.mk (Below.refl w.heap.size w)
 have A1 := Aside0.mk h1
 clear h1
 have c1a : (c.toList == ([84, 82, 85, 69] : List UInt8)) = false := beq_eq_false_iff_ne.mpr c1
 have c1b : (c.toList != ([84, 82, 85, 69] : List UInt8)) = true := bne_iff_ne.mpr c1
 have c2a : (c.toList == ([70, 65, 76, 83, 69] : List UInt8)) = true := beq_iff_eq.mpr c2
 have c2b : (c.toList != ([70, 65, 76, 83, 69] : List UInt8)) = false := bne_eq_false_iff_eq.mpr c2
 clear c1 c2
 go_enter Tryz.func22, Tryz.ntmps22
 go_wp2_with (first | (go_at_call 43; (with_reducible refine (colonnaderef02_upper.calls a0 c _ A1.out).mono ?_); rintro e w8 ⟨rfl, hb⟩; obtain ⟨k1, k2, k3⟩ := colonnaderef02_read.after3 hb; have hcb0 : w8.cell? ⟨w.heap.size, 0, none⟩ = some (.int .i64 1) := (blk_cell k1 0).trans rfl; have hcb1 : w8.cell? ⟨w.heap.size, 1, none⟩ = some (.int .i64 t1) := (blk_cell k1 1).trans rfl; have hcz0 : w8.cell? ⟨w.heap.size + 1, 0, none⟩ = some (.int .i64 0) := (blk_cell k2 0).trans rfl; have hfz0 := blk_frozen k2 0; have hcz1 : w8.cell? ⟨w.heap.size + 1, 1, none⟩ = some (.int .i64 0) := (blk_cell k2 1).trans rfl; have hfz1 := blk_frozen k2 1; have hcz2 : w8.cell? ⟨w.heap.size + 1, 2, none⟩ = some (.bool false) := (blk_cell k2 2).trans rfl; have hfz2 := blk_frozen k2 2; have hcz3 : w8.cell? ⟨w.heap.size + 1, 3, none⟩ = some (.int .i64 0) := (blk_cell k2 3).trans rfl; have hfz3 := blk_frozen k2 3; have hcz4 : w8.cell? ⟨w.heap.size + 1, 4, none⟩ = some (.string (⟨#[]⟩ : ByteArray)) := (blk_cell k2 4).trans rfl; have hfz4 := blk_frozen k2 4; have hcv0 : w8.cell? ⟨w.heap.size + 1 + 1, 0, none⟩ = some (.int .i64 1) := (blk_cell k3 0).trans rfl; have hfv0 := blk_frozen k3 0; have hcv1 : w8.cell? ⟨w.heap.size + 1 + 1, 1, none⟩ = some (.int .i64 t1) := (blk_cell k3 1).trans rfl; have hfv1 := blk_frozen k3 1; have hcv2 : w8.cell? ⟨w.heap.size + 1 + 1, 2, none⟩ = some (.bool false) := (blk_cell k3 2).trans rfl; have hfv2 := blk_frozen k3 2; have hcv3 : w8.cell? ⟨w.heap.size + 1 + 1, 3, none⟩ = some (.int .i64 0) := (blk_cell k3 3).trans rfl; have hfv3 := blk_frozen k3 3; have hcv4 : w8.cell? ⟨w.heap.size + 1 + 1, 4, none⟩ = some (.string (⟨#[]⟩ : ByteArray)) := (blk_cell k3 4).trans rfl; have hfv4 := blk_frozen k3 4; have n0_ := Aside0.mk (below_step zE10_1 hb); clear HB; have HB := n0_; clear n0_; clear hb) | (go_at_call 43; (with_reducible refine (colonnaderef02_upper.calls a0 c _ A1.out).mono ?_); rintro e w9 ⟨rfl, hb⟩; replace k1 := blk_below k1 hb; replace k2 := blk_below k2 hb; replace k3 := blk_below k3 hb; have hcb0 : w9.cell? ⟨w.heap.size, 0, none⟩ = some (.int .i64 1) := (blk_cell k1 0).trans rfl; have hcb1 : w9.cell? ⟨w.heap.size, 1, none⟩ = some (.int .i64 t1) := (blk_cell k1 1).trans rfl; have hcz0 : w9.cell? ⟨w.heap.size + 1, 0, none⟩ = some (.int .i64 0) := (blk_cell k2 0).trans rfl; have hfz0 := blk_frozen k2 0; have hcz1 : w9.cell? ⟨w.heap.size + 1, 1, none⟩ = some (.int .i64 0) := (blk_cell k2 1).trans rfl; have hfz1 := blk_frozen k2 1; have hcz2 : w9.cell? ⟨w.heap.size + 1, 2, none⟩ = some (.bool false) := (blk_cell k2 2).trans rfl; have hfz2 := blk_frozen k2 2; have hcz3 : w9.cell? ⟨w.heap.size + 1, 3, none⟩ = some (.int .i64 0) := (blk_cell k2 3).trans rfl; have hfz3 := blk_frozen k2 3; have hcz4 : w9.cell? ⟨w.heap.size + 1, 4, none⟩ = some (.string (⟨#[]⟩ : ByteArray)) := (blk_cell k2 4).trans rfl; have hfz4 := blk_frozen k2 4; have hcv0 : w9.cell? ⟨w.heap.size + 1 + 1, 0, none⟩ = some (.int .i64 1) := (blk_cell k3 0).trans rfl; have hfv0 := blk_frozen k3 0; have hcv1 : w9.cell? ⟨w.heap.size + 1 + 1, 1, none⟩ = some (.int .i64 t1) := (blk_cell k3 1).trans rfl; have hfv1 := blk_frozen k3 1; have hcv2 : w9.cell? ⟨w.heap.size + 1 + 1, 2, none⟩ = some (.bool false) := (blk_cell k3 2).trans rfl; have hfv2 := blk_frozen k3 2; have hcv3 : w9.cell? ⟨w.heap.size + 1 + 1, 3, none⟩ = some (.int .i64 0) := (blk_cell k3 3).trans rfl; have hfv3 := blk_frozen k3 3; have hcv4 : w9.cell? ⟨w.heap.size + 1 + 1, 4, none⟩ = some (.string (⟨#[]⟩ : ByteArray)) := (blk_cell k3 4).trans rfl; have hfv4 := blk_frozen k3 4; have n0_ := Aside0.mk (below_step zE10_1 hb); clear HB; have HB := n0_; clear n0_; clear hb))
 refine bodyPost_ret (results_ct rfl _ _ (w.heap.size + 1) 25 #[.int .i64 1, .int .i64 t1, .bool false, .int .i64 0, .string (⟨#[]⟩ : ByteArray)] (0, 0) _ rfl (by (with_reducible repeat (first | refine blk_drewN ?_ _ | refine blk_drew ?_)); refine blk_put (cs := #[.int .i64 1, .int .i64 t1, .bool false, .int .i64 0, .string (⟨#[]⟩ : ByteArray)]) ?_ 4 _ rfl; (with_reducible repeat (first | refine blk_drewN ?_ _ | refine blk_drew ?_)); refine blk_put (cs := #[.int .i64 1, .int .i64 t1, .bool false, .int .i64 0, .string (⟨#[]⟩ : ByteArray)]) ?_ 3 _ rfl; (with_reducible repeat (first | refine blk_drewN ?_ _ | refine blk_drew ?_)); refine blk_put (cs := #[.int .i64 1, .int .i64 t1, .bool false, .int .i64 0, .string (⟨#[]⟩ : ByteArray)]) ?_ 2 _ rfl; (with_reducible repeat (first | refine blk_drewN ?_ _ | refine blk_drew ?_)); refine blk_put (cs := #[.int .i64 1, .int .i64 0, .bool false, .int .i64 0, .string (⟨#[]⟩ : ByteArray)]) ?_ 1 _ rfl; (with_reducible repeat (first | refine blk_drewN ?_ _ | refine blk_drew ?_)); refine blk_put (cs := #[.int .i64 0, .int .i64 0, .bool false, .int .i64 0, .string (⟨#[]⟩ : ByteArray)]) ?_ 0 _ rfl; (with_reducible repeat (first | refine blk_drewN ?_ _ | refine blk_drew ?_)); first | exact blk_alloc (colonnaderef02_read.new2 _ _ _) _ | exact k2 | exact colonnaderef02_read.other k2 _ _ _ zE10_6) Tryz.underlying25 rfl zE10_5) rfl ?_
 exact ⟨by first | rfl | (simp; done) | (simp [*]; done), by repeat (first | (with_reducible first | exact HB.out | apply below_alloc | apply pw_below_drewN | apply below_drew1 | refine below_set ?_ (Nat.le_succ _) | refine below_set ?_ (Nat.le_succ_of_le (Nat.le_succ _))) | exact HB.out)⟩
set_option maxHeartbeats 8000000 in
set_option maxRecDepth 100000 in
theorem colonnaderef02_read.none_ (a0 c : ByteArray) (t1 : Int) (w : World) (h1 : colonnaderef02_upper.f a0 = some c) (c1 : ¬ c.toList = ([84, 82, 85, 69] : List UInt8)) (c2 : ¬ c.toList = ([70, 65, 76, 83, 69] : List UInt8)) :
  Calls Tryz.prog 22 #[.string a0, .agg #[.int .i64 1, .int .i64 t1]] w fun e w' => e = .returned (.tuple #[.agg #[.int .i64 0, .int .i64 0, .bool false, .int .i64 0, .string (⟨#[]⟩ : ByteArray)], .int .i64 22]) ∧ Below w.heap.size w w' := by
 have hu25 := Tryz.underlying25
 have HB := Aside0.mk (Below.refl w.heap.size w)
 have A1 := Aside0.mk h1
 clear h1
 have c1a : (c.toList == ([84, 82, 85, 69] : List UInt8)) = false := beq_eq_false_iff_ne.mpr c1
 have c1b : (c.toList != ([84, 82, 85, 69] : List UInt8)) = true := bne_iff_ne.mpr c1
 have c2a : (c.toList == ([70, 65, 76, 83, 69] : List UInt8)) = false := beq_eq_false_iff_ne.mpr c2
 have c2b : (c.toList != ([70, 65, 76, 83, 69] : List UInt8)) = true := bne_iff_ne.mpr c2
 clear c1 c2
 go_enter Tryz.func22, Tryz.ntmps22
 go_wp2_with (first | (go_at_call 43; (with_reducible refine (colonnaderef02_upper.calls a0 c _ A1.out).mono ?_); rintro e w8 ⟨rfl, hb⟩; obtain ⟨k1, k2, k3⟩ := colonnaderef02_read.after3 hb; have hcb0 : w8.cell? ⟨w.heap.size, 0, none⟩ = some (.int .i64 1) := (blk_cell k1 0).trans rfl; have hcb1 : w8.cell? ⟨w.heap.size, 1, none⟩ = some (.int .i64 t1) := (blk_cell k1 1).trans rfl; have hcz0 : w8.cell? ⟨w.heap.size + 1, 0, none⟩ = some (.int .i64 0) := (blk_cell k2 0).trans rfl; have hfz0 := blk_frozen k2 0; have hcz1 : w8.cell? ⟨w.heap.size + 1, 1, none⟩ = some (.int .i64 0) := (blk_cell k2 1).trans rfl; have hfz1 := blk_frozen k2 1; have hcz2 : w8.cell? ⟨w.heap.size + 1, 2, none⟩ = some (.bool false) := (blk_cell k2 2).trans rfl; have hfz2 := blk_frozen k2 2; have hcz3 : w8.cell? ⟨w.heap.size + 1, 3, none⟩ = some (.int .i64 0) := (blk_cell k2 3).trans rfl; have hfz3 := blk_frozen k2 3; have hcz4 : w8.cell? ⟨w.heap.size + 1, 4, none⟩ = some (.string (⟨#[]⟩ : ByteArray)) := (blk_cell k2 4).trans rfl; have hfz4 := blk_frozen k2 4; have hcv0 : w8.cell? ⟨w.heap.size + 1 + 1, 0, none⟩ = some (.int .i64 1) := (blk_cell k3 0).trans rfl; have hfv0 := blk_frozen k3 0; have hcv1 : w8.cell? ⟨w.heap.size + 1 + 1, 1, none⟩ = some (.int .i64 t1) := (blk_cell k3 1).trans rfl; have hfv1 := blk_frozen k3 1; have hcv2 : w8.cell? ⟨w.heap.size + 1 + 1, 2, none⟩ = some (.bool false) := (blk_cell k3 2).trans rfl; have hfv2 := blk_frozen k3 2; have hcv3 : w8.cell? ⟨w.heap.size + 1 + 1, 3, none⟩ = some (.int .i64 0) := (blk_cell k3 3).trans rfl; have hfv3 := blk_frozen k3 3; have hcv4 : w8.cell? ⟨w.heap.size + 1 + 1, 4, none⟩ = some (.string (⟨#[]⟩ : ByteArray)) := (blk_cell k3 4).trans rfl; have hfv4 := blk_frozen k3 4; have n0_ := Aside0.mk (below_step zE10_1 hb); clear HB; have HB := n0_; clear n0_; clear hb) | (go_at_call 43; (with_reducible refine (colonnaderef02_upper.calls a0 c _ A1.out).mono ?_); rintro e w9 ⟨rfl, hb⟩; replace k1 := blk_below k1 hb; replace k2 := blk_below k2 hb; replace k3 := blk_below k3 hb; have hcb0 : w9.cell? ⟨w.heap.size, 0, none⟩ = some (.int .i64 1) := (blk_cell k1 0).trans rfl; have hcb1 : w9.cell? ⟨w.heap.size, 1, none⟩ = some (.int .i64 t1) := (blk_cell k1 1).trans rfl; have hcz0 : w9.cell? ⟨w.heap.size + 1, 0, none⟩ = some (.int .i64 0) := (blk_cell k2 0).trans rfl; have hfz0 := blk_frozen k2 0; have hcz1 : w9.cell? ⟨w.heap.size + 1, 1, none⟩ = some (.int .i64 0) := (blk_cell k2 1).trans rfl; have hfz1 := blk_frozen k2 1; have hcz2 : w9.cell? ⟨w.heap.size + 1, 2, none⟩ = some (.bool false) := (blk_cell k2 2).trans rfl; have hfz2 := blk_frozen k2 2; have hcz3 : w9.cell? ⟨w.heap.size + 1, 3, none⟩ = some (.int .i64 0) := (blk_cell k2 3).trans rfl; have hfz3 := blk_frozen k2 3; have hcz4 : w9.cell? ⟨w.heap.size + 1, 4, none⟩ = some (.string (⟨#[]⟩ : ByteArray)) := (blk_cell k2 4).trans rfl; have hfz4 := blk_frozen k2 4; have hcv0 : w9.cell? ⟨w.heap.size + 1 + 1, 0, none⟩ = some (.int .i64 1) := (blk_cell k3 0).trans rfl; have hfv0 := blk_frozen k3 0; have hcv1 : w9.cell? ⟨w.heap.size + 1 + 1, 1, none⟩ = some (.int .i64 t1) := (blk_cell k3 1).trans rfl; have hfv1 := blk_frozen k3 1; have hcv2 : w9.cell? ⟨w.heap.size + 1 + 1, 2, none⟩ = some (.bool false) := (blk_cell k3 2).trans rfl; have hfv2 := blk_frozen k3 2; have hcv3 : w9.cell? ⟨w.heap.size + 1 + 1, 3, none⟩ = some (.int .i64 0) := (blk_cell k3 3).trans rfl; have hfv3 := blk_frozen k3 3; have hcv4 : w9.cell? ⟨w.heap.size + 1 + 1, 4, none⟩ = some (.string (⟨#[]⟩ : ByteArray)) := (blk_cell k3 4).trans rfl; have hfv4 := blk_frozen k3 4; have n0_ := Aside0.mk (below_step zE10_1 hb); clear HB; have HB := n0_; clear n0_; clear hb))
 refine bodyPost_ret (results_ct rfl _ _ (w.heap.size + 1) 25 #[.int .i64 0, .int .i64 0, .bool false, .int .i64 0, .string (⟨#[]⟩ : ByteArray)] (0, 0) _ rfl zE10_0 Tryz.underlying25 rfl zE10_5) rfl ?_
 exact ⟨by first | rfl | (simp; done) | (simp [*]; done), by repeat (first | (with_reducible first | exact HB.out | apply below_alloc | apply pw_below_drewN | apply below_drew1 | refine below_set ?_ (Nat.le_succ _) | refine below_set ?_ (Nat.le_succ_of_le (Nat.le_succ _))) | exact HB.out)⟩
set_option maxHeartbeats 8000000 in
set_option maxRecDepth 100000 in
theorem colonnaderef02_read.rest (a0 : ByteArray) (t0 : Int) (t1 : Int) (w : World) (c1 : ¬ t0 = 1) (c2 : ¬ t0 = 2) (c3 : ¬ t0 = 3) (c5 : ¬ t0 = 5) :
  Calls Tryz.prog 22 #[.string a0, .agg #[.int .i64 t0, .int .i64 t1]] w fun e w' => e = .returned (.tuple #[.agg #[.int .i64 t0, .int .i64 t1, .bool false, .int .i64 0, .string (⟨#[]⟩ : ByteArray)], .int .i64 0]) ∧ Below w.heap.size w w' := by
 have hu25 := Tryz.underlying25
 have HB := Aside0.mk (Below.refl w.heap.size w)
 have c1b : (t0 == 1) = false := beq_eq_false_iff_ne.mpr c1
 have c2b : (t0 == 2) = false := beq_eq_false_iff_ne.mpr c2
 have c3b : (t0 == 3) = false := beq_eq_false_iff_ne.mpr c3
 have c5b : (t0 == 5) = false := beq_eq_false_iff_ne.mpr c5
 clear c1 c2 c3 c5
 obtain ⟨k1, k2, k3⟩ := colonnaderef02_read.after3 (w := w) (o1 := #[.int .i64 t0, .int .i64 t1]) (o3 := #[.int .i64 t0, .int .i64 t1, .bool false, .int .i64 0, .string (⟨#[]⟩ : ByteArray)]) (t := 23) (Below.refl _ _)
 have hcb0 : (((w.alloc (.cells #[.int .i64 t0, .int .i64 t1] 23)).alloc (.cells #[.int .i64 0, .int .i64 0, .bool false, .int .i64 0, .string (⟨#[]⟩ : ByteArray)] 25)).alloc (.cells #[.int .i64 t0, .int .i64 t1, .bool false, .int .i64 0, .string (⟨#[]⟩ : ByteArray)] 25)).cell? ⟨w.heap.size, 0, none⟩ = some (.int .i64 t0) := (blk_cell k1 0).trans rfl; have hcb1 : (((w.alloc (.cells #[.int .i64 t0, .int .i64 t1] 23)).alloc (.cells #[.int .i64 0, .int .i64 0, .bool false, .int .i64 0, .string (⟨#[]⟩ : ByteArray)] 25)).alloc (.cells #[.int .i64 t0, .int .i64 t1, .bool false, .int .i64 0, .string (⟨#[]⟩ : ByteArray)] 25)).cell? ⟨w.heap.size, 1, none⟩ = some (.int .i64 t1) := (blk_cell k1 1).trans rfl; have hcz0 : (((w.alloc (.cells #[.int .i64 t0, .int .i64 t1] 23)).alloc (.cells #[.int .i64 0, .int .i64 0, .bool false, .int .i64 0, .string (⟨#[]⟩ : ByteArray)] 25)).alloc (.cells #[.int .i64 t0, .int .i64 t1, .bool false, .int .i64 0, .string (⟨#[]⟩ : ByteArray)] 25)).cell? ⟨w.heap.size + 1, 0, none⟩ = some (.int .i64 0) := (blk_cell k2 0).trans rfl; have hfz0 := blk_frozen k2 0; have hcz1 : (((w.alloc (.cells #[.int .i64 t0, .int .i64 t1] 23)).alloc (.cells #[.int .i64 0, .int .i64 0, .bool false, .int .i64 0, .string (⟨#[]⟩ : ByteArray)] 25)).alloc (.cells #[.int .i64 t0, .int .i64 t1, .bool false, .int .i64 0, .string (⟨#[]⟩ : ByteArray)] 25)).cell? ⟨w.heap.size + 1, 1, none⟩ = some (.int .i64 0) := (blk_cell k2 1).trans rfl; have hfz1 := blk_frozen k2 1; have hcz2 : (((w.alloc (.cells #[.int .i64 t0, .int .i64 t1] 23)).alloc (.cells #[.int .i64 0, .int .i64 0, .bool false, .int .i64 0, .string (⟨#[]⟩ : ByteArray)] 25)).alloc (.cells #[.int .i64 t0, .int .i64 t1, .bool false, .int .i64 0, .string (⟨#[]⟩ : ByteArray)] 25)).cell? ⟨w.heap.size + 1, 2, none⟩ = some (.bool false) := (blk_cell k2 2).trans rfl; have hfz2 := blk_frozen k2 2; have hcz3 : (((w.alloc (.cells #[.int .i64 t0, .int .i64 t1] 23)).alloc (.cells #[.int .i64 0, .int .i64 0, .bool false, .int .i64 0, .string (⟨#[]⟩ : ByteArray)] 25)).alloc (.cells #[.int .i64 t0, .int .i64 t1, .bool false, .int .i64 0, .string (⟨#[]⟩ : ByteArray)] 25)).cell? ⟨w.heap.size + 1, 3, none⟩ = some (.int .i64 0) := (blk_cell k2 3).trans rfl; have hfz3 := blk_frozen k2 3; have hcz4 : (((w.alloc (.cells #[.int .i64 t0, .int .i64 t1] 23)).alloc (.cells #[.int .i64 0, .int .i64 0, .bool false, .int .i64 0, .string (⟨#[]⟩ : ByteArray)] 25)).alloc (.cells #[.int .i64 t0, .int .i64 t1, .bool false, .int .i64 0, .string (⟨#[]⟩ : ByteArray)] 25)).cell? ⟨w.heap.size + 1, 4, none⟩ = some (.string (⟨#[]⟩ : ByteArray)) := (blk_cell k2 4).trans rfl; have hfz4 := blk_frozen k2 4; have hcv0 : (((w.alloc (.cells #[.int .i64 t0, .int .i64 t1] 23)).alloc (.cells #[.int .i64 0, .int .i64 0, .bool false, .int .i64 0, .string (⟨#[]⟩ : ByteArray)] 25)).alloc (.cells #[.int .i64 t0, .int .i64 t1, .bool false, .int .i64 0, .string (⟨#[]⟩ : ByteArray)] 25)).cell? ⟨w.heap.size + 1 + 1, 0, none⟩ = some (.int .i64 t0) := (blk_cell k3 0).trans rfl; have hfv0 := blk_frozen k3 0; have hcv1 : (((w.alloc (.cells #[.int .i64 t0, .int .i64 t1] 23)).alloc (.cells #[.int .i64 0, .int .i64 0, .bool false, .int .i64 0, .string (⟨#[]⟩ : ByteArray)] 25)).alloc (.cells #[.int .i64 t0, .int .i64 t1, .bool false, .int .i64 0, .string (⟨#[]⟩ : ByteArray)] 25)).cell? ⟨w.heap.size + 1 + 1, 1, none⟩ = some (.int .i64 t1) := (blk_cell k3 1).trans rfl; have hfv1 := blk_frozen k3 1; have hcv2 : (((w.alloc (.cells #[.int .i64 t0, .int .i64 t1] 23)).alloc (.cells #[.int .i64 0, .int .i64 0, .bool false, .int .i64 0, .string (⟨#[]⟩ : ByteArray)] 25)).alloc (.cells #[.int .i64 t0, .int .i64 t1, .bool false, .int .i64 0, .string (⟨#[]⟩ : ByteArray)] 25)).cell? ⟨w.heap.size + 1 + 1, 2, none⟩ = some (.bool false) := (blk_cell k3 2).trans rfl; have hfv2 := blk_frozen k3 2; have hcv3 : (((w.alloc (.cells #[.int .i64 t0, .int .i64 t1] 23)).alloc (.cells #[.int .i64 0, .int .i64 0, .bool false, .int .i64 0, .string (⟨#[]⟩ : ByteArray)] 25)).alloc (.cells #[.int .i64 t0, .int .i64 t1, .bool false, .int .i64 0, .string (⟨#[]⟩ : ByteArray)] 25)).cell? ⟨w.heap.size + 1 + 1, 3, none⟩ = some (.int .i64 0) := (blk_cell k3 3).trans rfl; have hfv3 := blk_frozen k3 3; have hcv4 : (((w.alloc (.cells #[.int .i64 t0, .int .i64 t1] 23)).alloc (.cells #[.int .i64 0, .int .i64 0, .bool false, .int .i64 0, .string (⟨#[]⟩ : ByteArray)] 25)).alloc (.cells #[.int .i64 t0, .int .i64 t1, .bool false, .int .i64 0, .string (⟨#[]⟩ : ByteArray)] 25)).cell? ⟨w.heap.size + 1 + 1, 4, none⟩ = some (.string (⟨#[]⟩ : ByteArray)) := (blk_cell k3 4).trans rfl; have hfv4 := blk_frozen k3 4
 go_enter Tryz.func22, Tryz.ntmps22
 go_wp2
 refine bodyPost_ret (results_ct rfl _ _ (w.heap.size + 1) 25 #[.int .i64 t0, .int .i64 t1, .bool false, .int .i64 0, .string (⟨#[]⟩ : ByteArray)] (0, 0) _ rfl (by (with_reducible repeat (first | refine blk_drewN ?_ _ | refine blk_drew ?_)); first | exact blk_alloc (colonnaderef02_read.new2 _ _ _) _ | exact k2 | exact colonnaderef02_read.other k2 _ _ _ zE10_6) Tryz.underlying25 rfl zE10_5) rfl ?_
 exact ⟨by first | rfl | (simp; done) | (simp [*]; done), by repeat (first | (with_reducible first | exact HB.out | apply below_alloc | apply pw_below_drewN | apply below_drew1 | refine below_set ?_ (Nat.le_succ _) | refine below_set ?_ (Nat.le_succ_of_le (Nat.le_succ _))) | exact HB.out)⟩
theorem colonnaderef02_read.calls (k : Nat) (a0 : ByteArray) (a1_0 : Int) (a1_1 : Int) (r1 : Int) (r2 : Int) (r3 : Bool) (r4 : Int) (r5 : ByteArray) (r6 : Int) (w : World) (h : colonnaderef02_read.f k a0 a1_0 a1_1 = some (r1, r2, r3, r4, r5, r6)) :
  Calls Tryz.prog 22 #[.string a0, .agg #[.int .i64 a1_0, .int .i64 a1_1]] w fun e w' => e = .returned (.tuple #[.agg #[.int .i64 r1, .int .i64 r2, .bool r3, .int .i64 r4, .string r5], .int .i64 r6]) ∧ Below w.heap.size w w' := by
 have ok : ∀ t0 n : Int, some (colonnaderef02_read.fin t0 a1_1 n 0) = some (r1, r2, r3, r4, r5, r6) → t0 = r1 ∧ a1_1 = r2 ∧ false = r3 ∧ n = r4 ∧ (⟨#[]⟩ : ByteArray) = r5 ∧ 0 = r6 := fun t0 n q => by
  unfold colonnaderef02_read.fin at q
  rw [if_pos rfl] at q
  simpa only [Option.some.injEq, Prod.mk.injEq] using q
 have no : ∀ t0 n e : Int, ¬ e = 0 → some (colonnaderef02_read.fin t0 a1_1 n e) = some (r1, r2, r3, r4, r5, r6) → 0 = r1 ∧ 0 = r2 ∧ false = r3 ∧ 0 = r4 ∧ (⟨#[]⟩ : ByteArray) = r5 ∧ 22 = r6 := fun t0 n e he q => by
  unfold colonnaderef02_read.fin at q
  rw [if_neg he] at q
  simpa only [Option.some.injEq, Prod.mk.injEq] using q
 unfold colonnaderef02_read.f at h
 by_cases c1 : a1_0 = 1
 ·rw [if_pos c1] at h
  subst c1
  obtain ⟨c, h1, h⟩ := Option.bind_eq_some_iff.mp h
  by_cases d1 : c.toList = ([84, 82, 85, 69] : List UInt8)
  ·rw [if_pos d1] at h
   obtain ⟨rfl, rfl, rfl, rfl, rfl, rfl⟩ := ok _ _ h
   exact colonnaderef02_read.true_ a0 c _ w h1 d1
  ·rw [if_neg d1] at h
   by_cases d2 : c.toList = ([70, 65, 76, 83, 69] : List UInt8)
   ·rw [if_pos d2] at h
    obtain ⟨rfl, rfl, rfl, rfl, rfl, rfl⟩ := ok _ _ h
    exact colonnaderef02_read.false_ a0 c _ w h1 d1 d2
   ·rw [if_neg d2] at h
    obtain ⟨rfl, rfl, rfl, rfl, rfl, rfl⟩ := no _ _ _ (by decide) h
    exact colonnaderef02_read.none_ a0 c _ w h1 d1 d2
 ·rw [if_neg c1] at h
  by_cases c2 : a1_0 = 2
  ·rw [if_pos c2] at h
   subst c2
   obtain ⟨⟨n, e⟩, h1, h⟩ := Option.bind_eq_some_iff.mp h
   by_cases d : e = 0
   ·subst d
    obtain ⟨rfl, rfl, rfl, rfl, rfl, rfl⟩ := ok _ _ h
    exact colonnaderef02_read.intOk k a0 _ _ w h1
   ·obtain ⟨rfl, rfl, rfl, rfl, rfl, rfl⟩ := no _ _ _ d h
    exact colonnaderef02_read.intNo k a0 n e _ w h1 d
  ·rw [if_neg c2] at h
   by_cases c3 : a1_0 = 3
   ·rw [if_pos c3] at h
    subst c3
    obtain ⟨⟨n, s, e⟩, h1, h⟩ := Option.bind_eq_some_iff.mp h
    simp only at h
    by_cases d : e = 0
    ·rw [if_pos d] at h
     subst d
     obtain ⟨⟨m, e⟩, h2, h⟩ := Option.bind_eq_some_iff.mp h
     by_cases d : e = 0
     ·subst d
      obtain ⟨rfl, rfl, rfl, rfl, rfl, rfl⟩ := ok _ _ h
      exact colonnaderef02_read.decOk k a0 n s _ _ w h1 h2
     ·obtain ⟨rfl, rfl, rfl, rfl, rfl, rfl⟩ := no _ _ _ d h
      exact colonnaderef02_read.decFar k a0 n s m e _ w h1 h2 d
    ·rw [if_neg d] at h
     obtain ⟨rfl, rfl, rfl, rfl, rfl, rfl⟩ := no _ _ _ d h
     exact colonnaderef02_read.decNo k a0 n s e _ w h1 d
   ·rw [if_neg c3] at h
    by_cases c5 : a1_0 = 5
    ·rw [if_pos c5] at h
     subst c5
     obtain ⟨⟨n, e⟩, h1, h⟩ := Option.bind_eq_some_iff.mp h
     by_cases d : e = 0
     ·subst d
      obtain ⟨rfl, rfl, rfl, rfl, rfl, rfl⟩ := ok _ _ h
      exact colonnaderef02_read.dayOk k a0 _ _ w h1
     ·obtain ⟨rfl, rfl, rfl, rfl, rfl, rfl⟩ := no _ _ _ d h
      exact colonnaderef02_read.dayNo k a0 n e _ w h1 d
    ·rw [if_neg c5] at h
     obtain ⟨rfl, rfl, rfl, rfl, rfl, rfl⟩ := ok _ _ h
     exact colonnaderef02_read.rest a0 _ _ w c1 c2 c3 c5


/-! ### colonnaderef02_scale: function 24 -/
def colonnaderef02_scale.f (a0_0 : Int) (a0_1 : Int) (a0_2 : Bool) (a0_3 : Int) (a0_4 : ByteArray) : Option (Int) := if a0_0 = 3 then (some (mn (mx a0_1 0) 18)) else (some 0)
set_option maxHeartbeats 8000000 in
set_option maxRecDepth 100000 in
theorem colonnaderef02_scale.calls (a0_0 : Int) (a0_1 : Int) (a0_2 : Bool) (a0_3 : Int) (a0_4 : ByteArray) (r : Int) (w : World) (h : colonnaderef02_scale.f a0_0 a0_1 a0_2 a0_3 a0_4 = some r) :
  Calls Tryz.prog 24 #[.agg #[.int .i64 a0_0, .int .i64 a0_1, .bool a0_2, .int .i64 a0_3, .string a0_4]] w fun e w' => e = .returned (.int .i64 r) ∧ Below w.heap.size w w' := by
 have hu25 := Tryz.underlying25
 have HB := Aside0.mk (Below.refl w.heap.size w)
 have HF_ := Aside0.mk h
 clear h
 go_enter Tryz.func24, Tryz.ntmps24
 go_upto_region 1 with (first | ((with_reducible refine gate_dst (N := 1) rfl ?_); refine box_event ?hg (N := 1) ?hd (cs := #[.int .i64 a0_0, .int .i64 a0_1, .bool a0_2, .int .i64 a0_3, .string a0_4]) (t := 25) ?hr ?_; (case hd => rfl); (case hg => rfl); (case hr => first | (go_simp; done) | (go_simp; rfl)); intro gb303 hg w5 hbox hb; have n0_ := Aside0.mk (below_step zE10_1 hb); have n1_ := Aside0.mk (hbox); have n2_ := Aside0.mk ((by rw [hg]; exact (below_size zE10_1) : w.heap.size ≤ gb303)); have n3_ := Aside0.mk ((by rw [hg]; exact (below_size zE10_1) : w.heap.size ≤ gb303)); clear HB; have HB := n0_; have BK303 := n1_; have GW303 := n2_; have GE303 := n3_; clear n0_ n1_ n2_ n3_; clear hb hbox hg; have hcz6_0 : w5.cell? ⟨gb303, 0, none⟩ = some (.int .i64 a0_0) := (blk_cell BK303.out 0).trans rfl; have hcz6_1 : w5.cell? ⟨gb303, 1, none⟩ = some (.int .i64 a0_1) := (blk_cell BK303.out 1).trans rfl; have hcz6_2 : w5.cell? ⟨gb303, 2, none⟩ = some (.bool a0_2) := (blk_cell BK303.out 2).trans rfl; have hcz6_3 : w5.cell? ⟨gb303, 3, none⟩ = some (.int .i64 a0_3) := (blk_cell BK303.out 3).trans rfl; have hcz6_4 : w5.cell? ⟨gb303, 4, none⟩ = some (.string a0_4) := (blk_cell BK303.out 4).trans rfl; have hfz6_0 := blk_frozen BK303.out 0; have hfz6_1 := blk_frozen BK303.out 1; have hfz6_2 := blk_frozen BK303.out 2; have hfz6_3 := blk_frozen BK303.out 3; have hfz6_4 := blk_frozen BK303.out 4))
 (try simp only [Act.put, List.setIfInBounds_toArray, List.set_cons_zero, List.set_cons_succ])
 have h := HF_.out
 clear HF_
 have H : (if a0_0 = 3 then (some (mn (mx a0_1 0) 18)) else (some 0)) = some r := h
 clear h
 by_cases c2 : a0_0 = 3
 ·rw [if_pos c2] at H
  have c2b0 : (a0_0 == 3) = true := beq_iff_eq.mpr c2
  have c2b1 : (a0_0 != 3) = false := bne_eq_false_iff_eq.mpr c2
  clear c2
  obtain ⟨ji3, hji3⟩ : ∃ j_ : Int, (mx a0_1 0) = j_ := ⟨_, rfl⟩
  replace H : (some (mn (ji3) 18)) = some r := by first | (rw [hji3] at H; exact H) | (simp only [hji3] at H ⊢; exact H)
  (try (have hji3l : 0 ≤ ji3 := by (rw [← hji3]; unfold mx; (repeat' split) <;> omega)))
  (try (have hji3m : 0 ≤ ji3 := by omega))
  have hji3_ : (if a0_1 < 0 then 0 else a0_1) = ji3 := hji3
  obtain ⟨ji4, hji4⟩ : ∃ j_ : Int, (mn (ji3) 18) = j_ := ⟨_, rfl⟩
  replace H : (some ji4) = some r := by first | (rw [hji4] at H; exact H) | (simp only [hji4] at H ⊢; exact H)
  have hji4_ : (if 18 < (ji3) then 18 else (ji3)) = ji4 := hji4
  obtain rfl := Option.some.inj H
  go_wp2
  go_ret
  exact ⟨by first | rfl | (simp [errW_none, errW_some] <;> rfl) | (simp only [← hji3, ← hji4]; first | rfl | (simp [errW_none, errW_some] <;> rfl)) | (simp [*, errW_none, errW_some] <;> rfl), by repeat (first | (with_reducible first | exact HB.out | apply below_alloc | apply pw_below_drewN | apply below_drew1 | refine below_set ?_ GE303.out) | exact HB.out)⟩
 ·rw [if_neg c2] at H
  have c2b0 : (a0_0 == 3) = false := beq_eq_false_iff_ne.mpr c2
  have c2b1 : (a0_0 != 3) = true := bne_iff_ne.mpr c2
  obtain rfl := Option.some.inj H
  go_wp2
  go_ret
  exact ⟨by first | rfl | (simp [errW_none, errW_some] <;> rfl) | (simp [*, errW_none, errW_some] <;> rfl), by repeat (first | (with_reducible first | exact HB.out | apply below_alloc | apply pw_below_drewN | apply below_drew1 | refine below_set ?_ GE303.out) | exact HB.out)⟩

end Go.Proofs.YtjpgjggbanpegaaGreatDoor.E
