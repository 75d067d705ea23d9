/- PRINTED BY A PROGRAM OF THIS SESSION (px.py, over the kit's print): Lean functions with the answers of Go functions of the given program, and proofs that the Go code comes to these answers; each under the conditions that its theorem states. -/
import Derived.Test.YtjpgjggbanpegaaGreatDoorE0
import Derived.Test.YtjpgjggbanpegaaGreatDoorE8
namespace Go.Proofs.YtjpgjggbanpegaaGreatDoor.E
open Go.RowKit Go.Proofs.YtjpgjggbanpegaaGreatDoorW.PrintWords Go.Proofs.YtjpgjggbanpegaaGreatDoorW.PrintLast Go.Proofs.YtjpgjggbanpegaaGreatDoorW.PrintMore
attribute [local go_sem] max2_int min2_int max_two min_two max_three min_three max_four min_four   -- for this text's walks alone
set_option linter.unusedVariables false
set_option linter.unusedSimpArgs false
theorem zE9_0 {P : Prop} (h : P := by (try simp only [List.map_toArray, List.map_cons, List.map_nil]); first | done | rfl | (simp only [List.length_drop, List.length_take]; rfl)) : P := h
theorem zE9_1 {P : Prop} (h : P := by first | (with_reducible assumption) | assumption) : P := h
theorem zE9_2 {P : Prop} (h : P := by first | rfl | (simp; done) | (simp [*]; done)) : P := h
theorem zE9_3 {P : Prop} (h : P := by (try simp only [List.map_toArray, List.map_cons, List.map_nil]); first | done | (simp only [hji18]; rfl) | rfl | (simp only [List.length_drop, List.length_take]; rfl)) : P := h
theorem zE9_4 {P : Prop} (h : P := by kernel_rfl) : P := h

/-! ### colonnaderef01_digits: function 72 -/
def colonnaderef01_digits.l0 : Nat → ByteArray → Int → Option (Bool)
 | 0, _, _ => none
 | k + 1, x0, x3 => if x3 < (x0.size : Int) then (if 0 ≤ x3 then (if (bt x0 x3) < 48 then (some false) else (if (bt x0 x3) > 57 then (some false) else (colonnaderef01_digits.l0 k x0 (wrap64 (x3 + 1))))) else (none)) else (some (decide ((x0.size : Int) > 0)))
def colonnaderef01_digits.f (k : Nat) (a0 : ByteArray) : Option (Bool) := colonnaderef01_digits.l0 k a0 0
theorem colonnaderef01_digits.mono_l : ∀ k, (∀ y0 y1, LeO (colonnaderef01_digits.l0 k y0 y1) (colonnaderef01_digits.l0 (k + 1) y0 y1))
 | 0 => fun _ _ r h => by simp [colonnaderef01_digits.l0] at h
 | k + 1 => by
  have ih0 := colonnaderef01_digits.mono_l k
  ·intro y0 y1
   unfold colonnaderef01_digits.l0
   repeat' first
   | (with_reducible exact ih0 _ _)
   | (with_reducible exact LeO.refl _)
   | (with_reducible exact LeO.none _)
   | (with_reducible refine LeO.ite ?_ ?_)
   | (with_reducible refine LeO.bind ?_ (fun _ => ?_))
   | exact ih0 _ _
   | exact LeO.none _
   | refine LeO.ite ?_ ?_
   | refine LeO.bind ?_ (fun _ => ?_)
theorem colonnaderef01_digits.mono : ∀ a0 k, LeO (colonnaderef01_digits.f k a0) (colonnaderef01_digits.f (k + 1) a0) := by
 intro a0 k
 have ih0 := colonnaderef01_digits.mono_l k
 unfold colonnaderef01_digits.f
 repeat' first
   | (with_reducible exact ih0 _ _)
   | (with_reducible exact LeO.refl _)
   | (with_reducible exact LeO.none _)
   | (with_reducible refine LeO.ite ?_ ?_)
   | (with_reducible refine LeO.bind ?_ (fun _ => ?_))
   | exact ih0 _ _
   | exact LeO.none _
   | refine LeO.ite ?_ ?_
   | refine LeO.bind ?_ (fun _ => ?_)
set_option maxHeartbeats 8000000 in
set_option maxRecDepth 100000 in
theorem colonnaderef01_digits.calls (k : Nat) (a0 : ByteArray) (r : Bool) (w : World) (h : colonnaderef01_digits.f k a0 = some r) :
  Calls Tryz.prog 72 #[.string a0] w fun e w' => e = .returned (.bool r) ∧ Drawn0 w w' := by
 have H : (colonnaderef01_digits.l0 k a0 0) = some r := h
 clear h
 have H' := Aside0.mk H
 clear H
 go_enter Tryz.func72, Tryz.ntmps72
 go_wp2
 go_loopg [3] k (fun kq v3 w' => ∃ (x3_1 : Int), v3 = .int .i64 x3_1 ∧ Aside0 (colonnaderef01_digits.l0 kq a0 x3_1 = some r) ∧ Aside0 (kq ≤ k) ∧ Drawn0 w w')
 case atStart => exact ⟨(0), zE9_2, H', ⟨Nat.le_refl _⟩, by repeat (first | exact Drawn0.refl _ | apply Drawn0.step)⟩
 case round =>
  clear H'
  obtain ⟨x3_1, rfl, HA, HK1, ⟨m1, rfl⟩⟩ := hrel
  cases gk with
  | zero => exact absurd HA.out (by simp [colonnaderef01_digits.l0])
  | succ k1 =>
   have H := HA.out
   clear HA
   simp only [colonnaderef01_digits.l0] at H
   by_cases c2 : x3_1 < (a0.size : Int)
   ·rw [if_pos c2] at H
    have c2b0 : decide (x3_1 < (a0.size : Int)) = true := decide_eq_true c2
    clear c2
    by_cases c3 : 0 ≤ x3_1
    ·rw [if_pos c3] at H
     have c3b0 : decide (0 ≤ x3_1) = true := decide_eq_true c3
     clear c3
     by_cases c5 : (bt a0 x3_1) < 48
     ·rw [if_pos c5] at H
      have c5b0 : decide ((bt a0 x3_1) < 48) = true := decide_eq_true c5
      clear c5
      obtain rfl := Option.some.inj H
      have p4 : 0 ≤ (x3_1 : Int) := of_decide_eq_true zE9_1
      have q4 : x3_1 < (a0.size : Int) := of_decide_eq_true zE9_1
      have hx4 := bt_at a0 x3_1
      replace p4 := eq_true p4
      replace q4 := eq_true q4
      go_wp2
      go_ret
      exact ⟨by first | rfl | (simp; done) | (simp [*]; done), by repeat (first | exact Drawn0.refl _ | apply Drawn0.step)⟩
     ·rw [if_neg c5] at H
      have c5b0 : decide ((bt a0 x3_1) < 48) = false := decide_eq_false c5
      clear c5
      by_cases c7 : (bt a0 x3_1) > 57
      ·rw [if_pos c7] at H
       have c7b0 : decide (57 < (bt a0 x3_1)) = true := decide_eq_true c7
       clear c7
       obtain rfl := Option.some.inj H
       have p4 : 0 ≤ (x3_1 : Int) := of_decide_eq_true zE9_1
       have q4 : x3_1 < (a0.size : Int) := of_decide_eq_true zE9_1
       have hx4 := bt_at a0 x3_1
       replace p4 := eq_true p4
       replace q4 := eq_true q4
       have p6 : 0 ≤ (x3_1 : Int) := of_decide_eq_true zE9_1
       have q6 : x3_1 < (a0.size : Int) := of_decide_eq_true zE9_1
       have hx6 := bt_at a0 x3_1
       replace p6 := eq_true p6
       replace q6 := eq_true q6
       go_wp2
       go_ret
       exact ⟨by first | rfl | (simp; done) | (simp [*]; done), by repeat (first | exact Drawn0.refl _ | apply Drawn0.step)⟩
      ·rw [if_neg c7] at H
       have c7b0 : decide (57 < (bt a0 x3_1)) = false := decide_eq_false c7
       clear c7
       have H' := Aside0.mk H
       clear H
       have p4 : 0 ≤ (x3_1 : Int) := of_decide_eq_true zE9_1
       have q4 : x3_1 < (a0.size : Int) := of_decide_eq_true zE9_1
       have hx4 := bt_at a0 x3_1
       replace p4 := eq_true p4
       replace q4 := eq_true q4
       have p6 : 0 ≤ (x3_1 : Int) := of_decide_eq_true zE9_1
       have q6 : x3_1 < (a0.size : Int) := of_decide_eq_true zE9_1
       have hx6 := bt_at a0 x3_1
       replace p6 := eq_true p6
       replace q6 := eq_true q6
       go_wp2
       go_roundg k1
       case measure => have := HK1.out; omega
       case rel => exact ⟨(wrap64 (x3_1 + 1)), zE9_2, H', ⟨by have := HK1.out; omega⟩, by repeat (first | exact Drawn0.refl _ | apply Drawn0.step)⟩
    ·rw [if_neg c3] at H
     exact absurd H (by simp)
   ·rw [if_neg c2] at H
    have c2b0 : decide (x3_1 < (a0.size : Int)) = false := decide_eq_false c2
    clear c2
    obtain rfl := Option.some.inj H
    go_wp2
    go_ret
    exact ⟨by first | rfl | (simp; done) | (simp [*]; done), by repeat (first | exact Drawn0.refl _ | apply Drawn0.step)⟩

/-! ### colonnaderef01_read: function 73 -/
def colonnaderef01_read.l0 : Nat → ByteArray → Int → Int → Int → Option (Int × Bool)
 | 0, _, _, _, _ => none
 | k + 1, x0, x1, x6, x7 => if x7 < (x0.size : Int) then (if 0 ≤ x7 then (if x6 > (IntKind.u64.wrap (Int.tdiv (IntKind.u64.wrap (x1 - (((bt x0 x7) - 48) % 256))) 10)) then (some (0, false)) else (colonnaderef01_read.l0 k x0 x1 (IntKind.u64.wrap ((IntKind.u64.wrap (10 * x6)) + (((bt x0 x7) - 48) % 256))) (wrap64 (x7 + 1)))) else (none)) else (some (x6, true))
def colonnaderef01_read.f (k : Nat) (a0 : ByteArray) (a1 : Int) : Option (Int × Bool) := colonnaderef01_read.l0 k a0 a1 0 0
theorem colonnaderef01_read.mono_l : ∀ k, (∀ y0 y1 y2 y3, LeO (colonnaderef01_read.l0 k y0 y1 y2 y3) (colonnaderef01_read.l0 (k + 1) y0 y1 y2 y3))
 | 0 => fun _ _ _ _ r h => by simp [colonnaderef01_read.l0] at h
 | k + 1 => by
  have ih0 := colonnaderef01_read.mono_l k
  ·intro y0 y1 y2 y3
   unfold colonnaderef01_read.l0
   repeat' first
   | (with_reducible exact ih0 _ _ _ _)
   | (with_reducible exact LeO.refl _)
   | (with_reducible exact LeO.none _)
   | (with_reducible refine LeO.ite ?_ ?_)
   | (with_reducible refine LeO.bind ?_ (fun _ => ?_))
   | exact ih0 _ _ _ _
   | exact LeO.none _
   | refine LeO.ite ?_ ?_
   | refine LeO.bind ?_ (fun _ => ?_)
theorem colonnaderef01_read.mono : ∀ a0 a1 k, LeO (colonnaderef01_read.f k a0 a1) (colonnaderef01_read.f (k + 1) a0 a1) := by
 intro a0 a1 k
 have ih0 := colonnaderef01_read.mono_l k
 unfold colonnaderef01_read.f
 repeat' first
   | (with_reducible exact ih0 _ _ _ _)
   | (with_reducible exact LeO.refl _)
   | (with_reducible exact LeO.none _)
   | (with_reducible refine LeO.ite ?_ ?_)
   | (with_reducible refine LeO.bind ?_ (fun _ => ?_))
   | exact ih0 _ _ _ _
   | exact LeO.none _
   | refine LeO.ite ?_ ?_
   | refine LeO.bind ?_ (fun _ => ?_)
set_option maxHeartbeats 8000000 in
set_option maxRecDepth 100000 in
theorem colonnaderef01_read.calls (k : Nat) (a0 : ByteArray) (a1 : Int) (r1 : Int) (r2 : Bool) (w : World) (h : colonnaderef01_read.f k a0 a1 = some (r1, r2)) :
  Calls Tryz.prog 73 #[.string a0, .int .u64 a1] w fun e w' => e = .returned (.tuple #[.int .u64 r1, .bool r2]) ∧ Drawn0 w w' := by
 have H : (colonnaderef01_read.l0 k a0 a1 0 0) = some (r1, r2) := h
 clear h
 have H' := Aside0.mk H
 clear H
 go_enter Tryz.func73, Tryz.ntmps73
 go_wp2
 go_loopg [6, 7] k (fun kq v6 v7 w' => ∃ (x6_1 : Int) (x7_1 : Int), v6 = .int .u64 x6_1 ∧ v7 = .int .i64 x7_1 ∧ Aside0 (colonnaderef01_read.l0 kq a0 a1 x6_1 x7_1 = some (r1, r2)) ∧ Aside0 (kq ≤ k) ∧ Drawn0 w w')
 case atStart => exact ⟨(0), (0), zE9_2, zE9_2, H', ⟨Nat.le_refl _⟩, by repeat (first | exact Drawn0.refl _ | apply Drawn0.step)⟩
 case round =>
  clear H'
  obtain ⟨x6_1, x7_1, rfl, rfl, HA, HK1, ⟨m1, rfl⟩⟩ := hrel
  cases gk with
  | zero => exact absurd HA.out (by simp [colonnaderef01_read.l0])
  | succ k1 =>
   have H := HA.out
   clear HA
   simp only [colonnaderef01_read.l0] at H
   by_cases c3 : x7_1 < (a0.size : Int)
   ·rw [if_pos c3] at H
    have c3b0 : decide (x7_1 < (a0.size : Int)) = true := decide_eq_true c3
    clear c3
    by_cases c4 : 0 ≤ x7_1
    ·rw [if_pos c4] at H
     have c4b0 : decide (0 ≤ x7_1) = true := decide_eq_true c4
     clear c4
     by_cases c6 : x6_1 > (IntKind.u64.wrap (Int.tdiv (IntKind.u64.wrap (a1 - (((bt a0 x7_1) - 48) % 256))) 10))
     ·rw [if_pos c6] at H
      have c6b0 : decide ((IntKind.u64.wrap (Int.tdiv (IntKind.u64.wrap (a1 - (((bt a0 x7_1) - 48) % 256))) 10)) < x6_1) = true := decide_eq_true c6
      clear c6
      simp only [Option.some.injEq, Prod.mk.injEq] at H
      obtain ⟨rfl, rfl⟩ := H
      have p5 : 0 ≤ (x7_1 : Int) := of_decide_eq_true zE9_1
      have q5 : x7_1 < (a0.size : Int) := of_decide_eq_true zE9_1
      have hx5 := bt_at a0 x7_1
      replace p5 := eq_true p5
      replace q5 := eq_true q5
      go_wp2
      go_ret2
      exact ⟨by first | rfl | (simp; done) | (simp [*]; done), by repeat (first | exact Drawn0.refl _ | apply Drawn0.step)⟩
     ·rw [if_neg c6] at H
      have c6b0 : decide ((IntKind.u64.wrap (Int.tdiv (IntKind.u64.wrap (a1 - (((bt a0 x7_1) - 48) % 256))) 10)) < x6_1) = false := decide_eq_false c6
      clear c6
      have H' := Aside0.mk H
      clear H
      have p5 : 0 ≤ (x7_1 : Int) := of_decide_eq_true zE9_1
      have q5 : x7_1 < (a0.size : Int) := of_decide_eq_true zE9_1
      have hx5 := bt_at a0 x7_1
      replace p5 := eq_true p5
      replace q5 := eq_true q5
      go_wp2
      go_roundg k1
      case measure => have := HK1.out; omega
      case rel => exact ⟨(IntKind.u64.wrap ((IntKind.u64.wrap (10 * x6_1)) + (((bt a0 x7_1) - 48) % 256))), (wrap64 (x7_1 + 1)), zE9_2, zE9_2, H', ⟨by have := HK1.out; omega⟩, by repeat (first | exact Drawn0.refl _ | apply Drawn0.step)⟩
    ·rw [if_neg c4] at H
     exact absurd H (by simp)
   ·rw [if_neg c3] at H
    have c3b0 : decide (x7_1 < (a0.size : Int)) = false := decide_eq_false c3
    clear c3
    simp only [Option.some.injEq, Prod.mk.injEq] at H
    obtain ⟨rfl, rfl⟩ := H
    go_wp2
    go_ret2
    exact ⟨by first | rfl | (simp; done) | (simp [*]; done), by repeat (first | exact Drawn0.refl _ | apply Drawn0.step)⟩

/-! ### colonnaderef01_ParseInt: function 44 -/
mutual
def colonnaderef01_ParseInt.j0 : Nat → ByteArray → Bool → Option (Int × Int)
 | 0, _, _ => none
 | k + 1, x0, x4 => if x4 = true then (if 1 ≤ (x0.size : Int) then (colonnaderef01_ParseInt.j1 k (x0.extract 1 x0.size) x4) else (none)) else (colonnaderef01_ParseInt.j1 k x0 x4)
def colonnaderef01_ParseInt.j1 : Nat → ByteArray → Bool → Option (Int × Int)
 | 0, _, _ => none
 | k + 1, x0, x4 => (colonnaderef01_digits.f k x0).bind fun t278 => (if t278 = true then ((colonnaderef01_read.f k x0 9223372036854775808).bind fun bt279 => (if bt279.2 = true then ((colonnaderef01_signed.f k bt279.1 x4).bind fun bt281 => (some (bt281.1, bt281.2))) else (some (0, 10)))) else (some (0, 12)))
end
def colonnaderef01_ParseInt.f (k : Nat) (a0 : ByteArray) : Option (Int × Int) := if (a0.size : Int) > 0 then (if 0 < (a0.size : Int) then (colonnaderef01_ParseInt.j0 k a0 ((bt a0 0) == 45)) else (none)) else (colonnaderef01_ParseInt.j0 k a0 false)
theorem colonnaderef01_ParseInt.mono_l : ∀ k, (∀ y0 y1, LeO (colonnaderef01_ParseInt.j0 k y0 y1) (colonnaderef01_ParseInt.j0 (k + 1) y0 y1)) ∧ (∀ y0 y1, LeO (colonnaderef01_ParseInt.j1 k y0 y1) (colonnaderef01_ParseInt.j1 (k + 1) y0 y1))
 | 0 => ⟨fun _ _ r h => by simp [colonnaderef01_ParseInt.j0] at h, fun _ _ r h => by simp [colonnaderef01_ParseInt.j1] at h⟩
 | k + 1 => by
  obtain ⟨ih0, ih1⟩ := colonnaderef01_ParseInt.mono_l k
  refine ⟨?_, ?_⟩
  ·intro y0 y1
   unfold colonnaderef01_ParseInt.j0
   repeat' first
   | (with_reducible exact ih0 _ _)
   | (with_reducible exact ih1 _ _)
   | (with_reducible exact colonnaderef01_digits.mono _ _)
   | (with_reducible exact colonnaderef01_read.mono _ _ _)
   | (with_reducible exact colonnaderef01_signed.mono _ _ _)
   | (with_reducible exact LeO.refl _)
   | (with_reducible exact LeO.none _)
   | (with_reducible refine LeO.ite ?_ ?_)
   | (with_reducible refine LeO.bind ?_ (fun _ => ?_))
   | exact ih0 _ _
   | exact ih1 _ _
   | exact colonnaderef01_digits.mono _ _
   | exact colonnaderef01_read.mono _ _ _
   | exact colonnaderef01_signed.mono _ _ _
   | exact LeO.none _
   | refine LeO.ite ?_ ?_
   | refine LeO.bind ?_ (fun _ => ?_)
  ·intro y0 y1
   unfold colonnaderef01_ParseInt.j1
   repeat' first
   | (with_reducible exact ih0 _ _)
   | (with_reducible exact ih1 _ _)
   | (with_reducible exact colonnaderef01_digits.mono _ _)
   | (with_reducible exact colonnaderef01_read.mono _ _ _)
   | (with_reducible exact colonnaderef01_signed.mono _ _ _)
   | (with_reducible exact LeO.refl _)
   | (with_reducible exact LeO.none _)
   | (with_reducible refine LeO.ite ?_ ?_)
   | (with_reducible refine LeO.bind ?_ (fun _ => ?_))
   | exact ih0 _ _
   | exact ih1 _ _
   | exact colonnaderef01_digits.mono _ _
   | exact colonnaderef01_read.mono _ _ _
   | exact colonnaderef01_signed.mono _ _ _
   | exact LeO.none _
   | refine LeO.ite ?_ ?_
   | refine LeO.bind ?_ (fun _ => ?_)
theorem colonnaderef01_ParseInt.mono : ∀ a0 k, LeO (colonnaderef01_ParseInt.f k a0) (colonnaderef01_ParseInt.f (k + 1) a0) := by
 intro a0 k
 obtain ⟨ih0, ih1⟩ := colonnaderef01_ParseInt.mono_l k
 unfold colonnaderef01_ParseInt.f
 repeat' first
   | (with_reducible exact ih0 _ _)
   | (with_reducible exact ih1 _ _)
   | (with_reducible exact colonnaderef01_digits.mono _ _)
   | (with_reducible exact colonnaderef01_read.mono _ _ _)
   | (with_reducible exact colonnaderef01_signed.mono _ _ _)
   | (with_reducible exact LeO.refl _)
   | (with_reducible exact LeO.none _)
   | (with_reducible refine LeO.ite ?_ ?_)
   | (with_reducible refine LeO.bind ?_ (fun _ => ?_))
   | exact ih0 _ _
   | exact ih1 _ _
   | exact colonnaderef01_digits.mono _ _
   | exact colonnaderef01_read.mono _ _ _
   | exact colonnaderef01_signed.mono _ _ _
   | exact LeO.none _
   | refine LeO.ite ?_ ?_
   | refine LeO.bind ?_ (fun _ => ?_)
set_option maxHeartbeats 8000000 in
set_option maxRecDepth 100000 in
theorem colonnaderef01_ParseInt.calls (k : Nat) (a0 : ByteArray) (r1 : Int) (r2 : Int) (w : World) (h : colonnaderef01_ParseInt.f k a0 = some (r1, r2)) :
  Calls Tryz.prog 44 #[.string a0] w fun e w' => e = .returned (.tuple #[.int .i64 r1, .int .i64 r2]) ∧ Drawn0 w w' := by
 have H : (if (a0.size : Int) > 0 then (if 0 < (a0.size : Int) then (colonnaderef01_ParseInt.j0 k a0 ((bt a0 0) == 45)) else (none)) else (colonnaderef01_ParseInt.j0 k a0 false)) = some (r1, r2) := h
 clear h
 have HC2 := Aside0.mk H
 clear H
 go_enter Tryz.func44, Tryz.ntmps44
 go_upto_region 1 with (fail)
 go_cut [4] (fun v4 wc => ∃ (kq : Nat) (x4_1 : Bool), v4 = .bool x4_1 ∧ Aside0 (colonnaderef01_ParseInt.j0 kq a0 x4_1 = some (r1, r2)) ∧ Aside0 (kq ≤ k) ∧ Drawn0 w wc)
 case first =>
  have H := HC2.out
  clear HC2
  by_cases c3 : (a0.size : Int) > 0
  ·rw [if_pos c3] at H
   have c3b0 : decide (0 < (a0.size : Int)) = true := decide_eq_true c3
   have c3b1 : decide (0 < a0.size) = true := decide_eq_true (by omega)
   clear c3
   (first | rw [c3b0] | (simp only [i64_w, i32_w]; rw [c3b0]) | skip)
   by_cases c4 : 0 < (a0.size : Int)
   ·rw [if_pos c4] at H
    have c4b0 : decide (0 < (a0.size : Int)) = true := decide_eq_true c4
    have c4b1 : decide (0 < a0.size) = true := decide_eq_true (by omega)
    clear c4
    have H' := Aside0.mk H
    clear H
    have p5 : 0 ≤ (0 : Int) := (by omega)
    have q5 : 0 < a0.size := (by have : (0 : Int) < (a0.size : Int) := of_decide_eq_true zE9_1; omega)
    have hx5 : ∀ h : 0 < a0.size, ((a0[0]'h).toNat : Int) = bt a0 0 := bt_at a0 0
    clear p5
    have qi5 : (0 < (a0.size : Int)) = True := eq_true (of_decide_eq_true zE9_1)
    replace q5 := eq_true q5
    go_wp2
    go_meet
    case rel => exact ⟨_, (((bt a0 0) == 45)), zE9_2, H', ⟨by first | omega | exact Nat.le_refl _⟩, by repeat (first | exact Drawn0.refl _ | apply Drawn0.step)⟩
   ·rw [if_neg c4] at H
    exact absurd H (by simp)
  ·rw [if_neg c3] at H
   have c3b0 : decide (0 < (a0.size : Int)) = false := decide_eq_false c3
   have c3b1 : decide (0 < a0.size) = false := decide_eq_false (by omega)
   clear c3
   (first | rw [c3b0] | (simp only [i64_w, i32_w]; rw [c3b0]) | skip)
   have H' := Aside0.mk H
   clear H
   go_wp2
   go_meet
   case rel => exact ⟨_, (false), zE9_2, H', ⟨by first | omega | exact Nat.le_refl _⟩, by repeat (first | exact Drawn0.refl _ | apply Drawn0.step)⟩
 case rest =>
  clear HC2
  obtain ⟨kq, x4_1, rfl, HA, HJ1, ⟨mc1, rfl⟩⟩ := hcut
  cases kq with
  | zero => exact absurd HA.out (by simp [colonnaderef01_ParseInt.j0])
  | succ kj1 =>
   have H := HA.out
   clear HA
   simp only [colonnaderef01_ParseInt.j0] at H
   have HC6 := Aside0.mk H
   clear H
   go_upto_if 15 with (fail)
   go_cut [0] (fun v0 wc => ∃ (kq : Nat) (x0_5 : ByteArray), v0 = .string x0_5 ∧ Aside0 (colonnaderef01_ParseInt.j1 kq x0_5 x4_1 = some (r1, r2)) ∧ Aside0 (kq ≤ kj1) ∧ Drawn0 w wc)
   case first =>
    have H := HC6.out
    clear HC6
    by_cases c7 : x4_1 = true
    ·subst c7
     have H1 : (if 1 ≤ (a0.size : Int) then (colonnaderef01_ParseInt.j1 kj1 (a0.extract 1 a0.size) true) else (none)) = some (r1, r2) := by rw [if_pos rfl] at H; exact H
     clear H
     have H := H1
     clear H1
     by_cases c8 : 1 ≤ (a0.size : Int)
     ·rw [if_pos c8] at H
      have c8b0 := eq_true c8
      (try (have c8n := c8; simp [size_lit] at c8n))
      (try (have c8m := eq_false (Nat.not_lt.2 c8); simp only [ByteArray.size_append, size_lit, List.length_cons, List.length_nil, Nat.reduceAdd, Nat.zero_add] at c8m))
      have c8b1 : decide (1 ≤ (a0.size : Int)) = true := decide_eq_true c8
      clear c8
      have H' := Aside0.mk H
      clear H
      go_wp2
      go_meet
      case rel => exact ⟨_, (a0.extract 1 a0.size), zE9_2, H', ⟨by have := HJ1.out; first | omega | exact Nat.le_refl _⟩, by repeat (first | exact Drawn0.refl _ | apply Drawn0.step)⟩
     ·rw [if_neg c8] at H
      exact absurd H (by simp)
    ·replace c7 := Bool.eq_false_iff.mpr c7
     subst c7
     have H1 : (colonnaderef01_ParseInt.j1 kj1 a0 false) = some (r1, r2) := by rw [if_neg (show ¬ (false = true) by decide)] at H; exact H
     clear H
     have H := H1
     clear H1
     have H' := Aside0.mk H
     clear H
     go_wp2
     go_meet
     case rel => exact ⟨_, (a0), zE9_2, H', ⟨by have := HJ1.out; first | omega | exact Nat.le_refl _⟩, by repeat (first | exact Drawn0.refl _ | apply Drawn0.step)⟩
   case rest =>
    clear HC6
    obtain ⟨kq, x0_5, rfl, HA, HJ5, ⟨mc5, rfl⟩⟩ := hcut
    cases kq with
    | zero => exact absurd HA.out (by simp [colonnaderef01_ParseInt.j1])
    | succ kj5 =>
     have H := HA.out
     clear HA
     simp only [colonnaderef01_ParseInt.j1] at H
     replace H := Option.bind_eq_some_iff.mp H
     obtain ⟨t278, A90, H⟩ := H
     replace H : (if t278 = true then ((colonnaderef01_read.f kj5 x0_5 9223372036854775808).bind fun bt279 => (if bt279.2 = true then ((colonnaderef01_signed.f kj5 bt279.1 x4_1).bind fun bt281 => (some (bt281.1, bt281.2))) else (some (0, 10)))) else (some (0, 12))) = some (r1, r2) := H
     have A9 := Aside0.mk A90
     clear A90
     by_cases c10 : t278 = true
     ·subst c10
      have H1 : ((colonnaderef01_read.f kj5 x0_5 9223372036854775808).bind fun bt279 => (if bt279.2 = true then ((colonnaderef01_signed.f kj5 bt279.1 x4_1).bind fun bt281 => (some (bt281.1, bt281.2))) else (some (0, 10)))) = some (r1, r2) := by rw [if_pos rfl] at H; exact H
      clear H
      have H := H1
      clear H1
      replace H := Option.bind_eq_some_iff.mp H
      obtain ⟨⟨t279, t280⟩, A110, H⟩ := H
      replace H : (if t280 = true then ((colonnaderef01_signed.f kj5 t279 x4_1).bind fun bt281 => (some (bt281.1, bt281.2))) else (some (0, 10))) = some (r1, r2) := H
      have A11 := Aside0.mk A110
      clear A110
      by_cases c12 : t280 = true
      ·subst c12
       have H1 : ((colonnaderef01_signed.f kj5 t279 x4_1).bind fun bt281 => (some (bt281.1, bt281.2))) = some (r1, r2) := by rw [if_pos rfl] at H; exact H
       clear H
       have H := H1
       clear H1
       replace H := Option.bind_eq_some_iff.mp H
       obtain ⟨⟨t281, t282⟩, A130, H⟩ := H
       replace H : (some (t281, t282)) = some (r1, r2) := H
       have A13 := Aside0.mk A130
       clear A130
       simp only [Option.some.injEq, Prod.mk.injEq] at H
       obtain ⟨rfl, rfl⟩ := H
       go_wp2_with (first | ((with_reducible refine gate_callee (f := 72) rfl ?_); refine goesL_ (some 19) rfl rfl Tryz.func72 zE9_4 rfl #[.string x0_5] rfl zE9_0 ?_; (with_reducible refine (colonnaderef01_digits.calls kj5 x0_5 true _ A9.out).mono ?_); rintro e w' ⟨rfl, ⟨nd, rfl⟩⟩; refine ⟨_, rfl, ?_⟩) | ((with_reducible refine gate_callee (f := 73) rfl ?_); refine goesL_ (some 23) rfl rfl Tryz.func73 zE9_4 rfl #[.string x0_5, .int .u64 9223372036854775808] rfl zE9_0 ?_; (with_reducible refine (colonnaderef01_read.calls kj5 x0_5 9223372036854775808 t279 true _ A11.out).mono ?_); rintro e w' ⟨rfl, ⟨nd, rfl⟩⟩; refine ⟨_, rfl, ?_⟩) | ((with_reducible refine gate_callee (f := 51) rfl ?_); refine goesL_ (some 30) rfl rfl Tryz.func51 zE9_4 rfl #[.int .u64 t279, .bool x4_1] rfl zE9_0 ?_; (with_reducible refine (colonnaderef01_signed.calls kj5 t279 x4_1 t281 t282 _ A13.out).mono ?_); rintro e w' ⟨rfl, ⟨nd, rfl⟩⟩; refine ⟨_, rfl, ?_⟩))
       go_ret2
       exact ⟨by first | rfl | (simp; done) | (simp [*]; done), by repeat (first | exact Drawn0.refl _ | apply Drawn0.step)⟩
      ·replace c12 := Bool.eq_false_iff.mpr c12
       subst c12
       have H1 : (some (0, 10)) = some (r1, r2) := by rw [if_neg (show ¬ (false = true) by decide)] at H; exact H
       clear H
       have H := H1
       clear H1
       simp only [Option.some.injEq, Prod.mk.injEq] at H
       obtain ⟨rfl, rfl⟩ := H
       go_wp2_with (first | ((with_reducible refine gate_callee (f := 72) rfl ?_); refine goesL_ (some 19) rfl rfl Tryz.func72 zE9_4 rfl #[.string x0_5] rfl zE9_0 ?_; (with_reducible refine (colonnaderef01_digits.calls kj5 x0_5 true _ A9.out).mono ?_); rintro e w' ⟨rfl, ⟨nd, rfl⟩⟩; refine ⟨_, rfl, ?_⟩) | ((with_reducible refine gate_callee (f := 73) rfl ?_); refine goesL_ (some 23) rfl rfl Tryz.func73 zE9_4 rfl #[.string x0_5, .int .u64 9223372036854775808] rfl zE9_0 ?_; (with_reducible refine (colonnaderef01_read.calls kj5 x0_5 9223372036854775808 t279 false _ A11.out).mono ?_); rintro e w' ⟨rfl, ⟨nd, rfl⟩⟩; refine ⟨_, rfl, ?_⟩))
       go_ret2
       exact ⟨by first | rfl | (simp; done) | (simp [*]; done), by repeat (first | exact Drawn0.refl _ | apply Drawn0.step)⟩
     ·replace c10 := Bool.eq_false_iff.mpr c10
      subst c10
      have H1 : (some (0, 12)) = some (r1, r2) := by rw [if_neg (show ¬ (false = true) by decide)] at H; exact H
      clear H
      have H := H1
      clear H1
      simp only [Option.some.injEq, Prod.mk.injEq] at H
      obtain ⟨rfl, rfl⟩ := H
      go_wp2_with (first | ((with_reducible refine gate_callee (f := 72) rfl ?_); refine goesL_ (some 19) rfl rfl Tryz.func72 zE9_4 rfl #[.string x0_5] rfl zE9_0 ?_; (with_reducible refine (colonnaderef01_digits.calls kj5 x0_5 false _ A9.out).mono ?_); rintro e w' ⟨rfl, ⟨nd, rfl⟩⟩; refine ⟨_, rfl, ?_⟩))
      go_ret2
      exact ⟨by first | rfl | (simp; done) | (simp [*]; done), by repeat (first | exact Drawn0.refl _ | apply Drawn0.step)⟩

/-! ### colonnaderef01_ParseDec: function 45 -/
mutual
def colonnaderef01_ParseDec.j0 : Nat → ByteArray → Bool → Option (Int × Int × Int)
 | 0, _, _ => none
 | k + 1, x0, x5 => if x5 = true then (if 1 ≤ (x0.size : Int) then (colonnaderef01_ParseDec.j1 k (x0.extract 1 x0.size) x5) else (none)) else (colonnaderef01_ParseDec.j1 k x0 x5)
def colonnaderef01_ParseDec.j1 : Nat → ByteArray → Bool → Option (Int × Int × Int)
 | 0, _, _ => none
 | k + 1, x0, x5 => colonnaderef01_ParseDec.l0 k x0 x5 0
def colonnaderef01_ParseDec.j3 : Nat → ByteArray → Bool → Int → Option (Int × Int × Int)
 | 0, _, _, _ => none
 | k + 1, x0, x5, x6 => if 0 ≤ x6 then (if x6 ≤ (x0.size : Int) then (if x6 < (x0.size : Int) then (if 0 ≤ (wrap64 (x6 + 1)) then (if (wrap64 (x6 + 1)) ≤ (x0.size : Int) then ((colonnaderef01_digits.f k (x0.extract ((wrap64 (x6 + 1)) : Int).toNat x0.size)).bind fun t283 => (if t283 = true then (colonnaderef01_ParseDec.j4 k x5 (x0.extract 0 (x6 : Int).toNat) (x0.extract ((wrap64 (x6 + 1)) : Int).toNat x0.size)) else (some (0, 0, 12)))) else (none)) else (none)) else (colonnaderef01_ParseDec.j4 k x5 (x0.extract 0 (x6 : Int).toNat) (⟨#[]⟩ : ByteArray))) else (none)) else (none)
def colonnaderef01_ParseDec.j4 : Nat → Bool → ByteArray → ByteArray → Option (Int × Int × Int)
 | 0, _, _, _ => none
 | k + 1, x5, x7, x8 => (colonnaderef01_digits.f k x7).bind fun t284 => (if t284 = true then (if (x8.size : Int) > 18 then (some (0, 0, 10)) else (if x7.size + x8.size ≤ 9223372036854775807 then ((colonnaderef01_read.f k (x7 ++ x8) 999999999999999999).bind fun bt285 => (if bt285.2 = true then ((colonnaderef01_signed.f k bt285.1 x5).bind fun bt287 => (some (bt287.1, (x8.size : Int), bt287.2))) else (some (0, 0, 10)))) else (none))) else (some (0, 0, 12)))
def colonnaderef01_ParseDec.l0 : Nat → ByteArray → Bool → Int → Option (Int × Int × Int)
 | 0, _, _, _ => none
 | k + 1, x0, x5, x6 => if x6 < (x0.size : Int) then (if 0 ≤ x6 then (if (bt x0 x6) = 46 then (colonnaderef01_ParseDec.j3 k x0 x5 x6) else (colonnaderef01_ParseDec.l0 k x0 x5 (wrap64 (x6 + 1)))) else (none)) else (colonnaderef01_ParseDec.j3 k x0 x5 x6)
end
def colonnaderef01_ParseDec.f (k : Nat) (a0 : ByteArray) : Option (Int × Int × Int) := if (a0.size : Int) > 0 then (if 0 < (a0.size : Int) then (colonnaderef01_ParseDec.j0 k a0 ((bt a0 0) == 45)) else (none)) else (colonnaderef01_ParseDec.j0 k a0 false)
theorem colonnaderef01_ParseDec.mono_l : ∀ k, (∀ y0 y1, LeO (colonnaderef01_ParseDec.j0 k y0 y1) (colonnaderef01_ParseDec.j0 (k + 1) y0 y1)) ∧ (∀ y0 y1, LeO (colonnaderef01_ParseDec.j1 k y0 y1) (colonnaderef01_ParseDec.j1 (k + 1) y0 y1)) ∧ (∀ y0 y1 y2, LeO (colonnaderef01_ParseDec.j3 k y0 y1 y2) (colonnaderef01_ParseDec.j3 (k + 1) y0 y1 y2)) ∧ (∀ y0 y1 y2, LeO (colonnaderef01_ParseDec.j4 k y0 y1 y2) (colonnaderef01_ParseDec.j4 (k + 1) y0 y1 y2)) ∧ (∀ y0 y1 y2, LeO (colonnaderef01_ParseDec.l0 k y0 y1 y2) (colonnaderef01_ParseDec.l0 (k + 1) y0 y1 y2))
 | 0 => ⟨fun _ _ r h => by simp [colonnaderef01_ParseDec.j0] at h, fun _ _ r h => by simp [colonnaderef01_ParseDec.j1] at h, fun _ _ _ r h => by simp [colonnaderef01_ParseDec.j3] at h, fun _ _ _ r h => by simp [colonnaderef01_ParseDec.j4] at h, fun _ _ _ r h => by simp [colonnaderef01_ParseDec.l0] at h⟩
 | k + 1 => by
  obtain ⟨ih0, ih1, ih2, ih3, ih4⟩ := colonnaderef01_ParseDec.mono_l k
  refine ⟨?_, ?_, ?_, ?_, ?_⟩
  ·intro y0 y1
   unfold colonnaderef01_ParseDec.j0
   repeat' first
   | (with_reducible exact ih0 _ _)
   | (with_reducible exact ih1 _ _)
   | (with_reducible exact ih2 _ _ _)
   | (with_reducible exact ih3 _ _ _)
   | (with_reducible exact ih4 _ _ _)
   | (with_reducible exact colonnaderef01_digits.mono _ _)
   | (with_reducible exact colonnaderef01_read.mono _ _ _)
   | (with_reducible exact colonnaderef01_signed.mono _ _ _)
   | (with_reducible exact LeO.refl _)
   | (with_reducible exact LeO.none _)
   | (with_reducible refine LeO.ite ?_ ?_)
   | (with_reducible refine LeO.bind ?_ (fun _ => ?_))
   | exact ih0 _ _
   | exact ih1 _ _
   | exact ih2 _ _ _
   | exact ih3 _ _ _
   | exact ih4 _ _ _
   | exact colonnaderef01_digits.mono _ _
   | exact colonnaderef01_read.mono _ _ _
   | exact colonnaderef01_signed.mono _ _ _
   | exact LeO.none _
   | refine LeO.ite ?_ ?_
   | refine LeO.bind ?_ (fun _ => ?_)
  ·intro y0 y1
   unfold colonnaderef01_ParseDec.j1
   repeat' first
   | (with_reducible exact ih0 _ _)
   | (with_reducible exact ih1 _ _)
   | (with_reducible exact ih2 _ _ _)
   | (with_reducible exact ih3 _ _ _)
   | (with_reducible exact ih4 _ _ _)
   | (with_reducible exact colonnaderef01_digits.mono _ _)
   | (with_reducible exact colonnaderef01_read.mono _ _ _)
   | (with_reducible exact colonnaderef01_signed.mono _ _ _)
   | (with_reducible exact LeO.refl _)
   | (with_reducible exact LeO.none _)
   | (with_reducible refine LeO.ite ?_ ?_)
   | (with_reducible refine LeO.bind ?_ (fun _ => ?_))
   | exact ih0 _ _
   | exact ih1 _ _
   | exact ih2 _ _ _
   | exact ih3 _ _ _
   | exact ih4 _ _ _
   | exact colonnaderef01_digits.mono _ _
   | exact colonnaderef01_read.mono _ _ _
   | exact colonnaderef01_signed.mono _ _ _
   | exact LeO.none _
   | refine LeO.ite ?_ ?_
   | refine LeO.bind ?_ (fun _ => ?_)
  ·intro y0 y1 y2
   unfold colonnaderef01_ParseDec.j3
   repeat' first
   | (with_reducible exact ih0 _ _)
   | (with_reducible exact ih1 _ _)
   | (with_reducible exact ih2 _ _ _)
   | (with_reducible exact ih3 _ _ _)
   | (with_reducible exact ih4 _ _ _)
   | (with_reducible exact colonnaderef01_digits.mono _ _)
   | (with_reducible exact colonnaderef01_read.mono _ _ _)
   | (with_reducible exact colonnaderef01_signed.mono _ _ _)
   | (with_reducible exact LeO.refl _)
   | (with_reducible exact LeO.none _)
   | (with_reducible refine LeO.ite ?_ ?_)
   | (with_reducible refine LeO.bind ?_ (fun _ => ?_))
   | exact ih0 _ _
   | exact ih1 _ _
   | exact ih2 _ _ _
   | exact ih3 _ _ _
   | exact ih4 _ _ _
   | exact colonnaderef01_digits.mono _ _
   | exact colonnaderef01_read.mono _ _ _
   | exact colonnaderef01_signed.mono _ _ _
   | exact LeO.none _
   | refine LeO.ite ?_ ?_
   | refine LeO.bind ?_ (fun _ => ?_)
  ·intro y0 y1 y2
   unfold colonnaderef01_ParseDec.j4
   repeat' first
   | (with_reducible exact ih0 _ _)
   | (with_reducible exact ih1 _ _)
   | (with_reducible exact ih2 _ _ _)
   | (with_reducible exact ih3 _ _ _)
   | (with_reducible exact ih4 _ _ _)
   | (with_reducible exact colonnaderef01_digits.mono _ _)
   | (with_reducible exact colonnaderef01_read.mono _ _ _)
   | (with_reducible exact colonnaderef01_signed.mono _ _ _)
   | (with_reducible exact LeO.refl _)
   | (with_reducible exact LeO.none _)
   | (with_reducible refine LeO.ite ?_ ?_)
   | (with_reducible refine LeO.bind ?_ (fun _ => ?_))
   | exact ih0 _ _
   | exact ih1 _ _
   | exact ih2 _ _ _
   | exact ih3 _ _ _
   | exact ih4 _ _ _
   | exact colonnaderef01_digits.mono _ _
   | exact colonnaderef01_read.mono _ _ _
   | exact colonnaderef01_signed.mono _ _ _
   | exact LeO.none _
   | refine LeO.ite ?_ ?_
   | refine LeO.bind ?_ (fun _ => ?_)
  ·intro y0 y1 y2
   unfold colonnaderef01_ParseDec.l0
   repeat' first
   | (with_reducible exact ih0 _ _)
   | (with_reducible exact ih1 _ _)
   | (with_reducible exact ih2 _ _ _)
   | (with_reducible exact ih3 _ _ _)
   | (with_reducible exact ih4 _ _ _)
   | (with_reducible exact colonnaderef01_digits.mono _ _)
   | (with_reducible exact colonnaderef01_read.mono _ _ _)
   | (with_reducible exact colonnaderef01_signed.mono _ _ _)
   | (with_reducible exact LeO.refl _)
   | (with_reducible exact LeO.none _)
   | (with_reducible refine LeO.ite ?_ ?_)
   | (with_reducible refine LeO.bind ?_ (fun _ => ?_))
   | exact ih0 _ _
   | exact ih1 _ _
   | exact ih2 _ _ _
   | exact ih3 _ _ _
   | exact ih4 _ _ _
   | exact colonnaderef01_digits.mono _ _
   | exact colonnaderef01_read.mono _ _ _
   | exact colonnaderef01_signed.mono _ _ _
   | exact LeO.none _
   | refine LeO.ite ?_ ?_
   | refine LeO.bind ?_ (fun _ => ?_)
theorem colonnaderef01_ParseDec.mono : ∀ a0 k, LeO (colonnaderef01_ParseDec.f k a0) (colonnaderef01_ParseDec.f (k + 1) a0) := by
 intro a0 k
 obtain ⟨ih0, ih1, ih2, ih3, ih4⟩ := colonnaderef01_ParseDec.mono_l k
 unfold colonnaderef01_ParseDec.f
 repeat' first
   | (with_reducible exact ih0 _ _)
   | (with_reducible exact ih1 _ _)
   | (with_reducible exact ih2 _ _ _)
   | (with_reducible exact ih3 _ _ _)
   | (with_reducible exact ih4 _ _ _)
   | (with_reducible exact colonnaderef01_digits.mono _ _)
   | (with_reducible exact colonnaderef01_read.mono _ _ _)
   | (with_reducible exact colonnaderef01_signed.mono _ _ _)
   | (with_reducible exact LeO.refl _)
   | (with_reducible exact LeO.none _)
   | (with_reducible refine LeO.ite ?_ ?_)
   | (with_reducible refine LeO.bind ?_ (fun _ => ?_))
   | exact ih0 _ _
   | exact ih1 _ _
   | exact ih2 _ _ _
   | exact ih3 _ _ _
   | exact ih4 _ _ _
   | exact colonnaderef01_digits.mono _ _
   | exact colonnaderef01_read.mono _ _ _
   | exact colonnaderef01_signed.mono _ _ _
   | exact LeO.none _
   | refine LeO.ite ?_ ?_
   | refine LeO.bind ?_ (fun _ => ?_)
set_option maxHeartbeats 8000000 in
set_option maxRecDepth 100000 in
theorem colonnaderef01_ParseDec.calls (k : Nat) (a0 : ByteArray) (r1 : Int) (r2 : Int) (r3 : Int) (w : World) (h : colonnaderef01_ParseDec.f k a0 = some (r1, r2, r3)) :
  Calls Tryz.prog 45 #[.string a0] w fun e w' => e = .returned (.tuple #[.int .i64 r1, .int .i64 r2, .int .i64 r3]) ∧ Drawn0 w w' := by
 have H : (if (a0.size : Int) > 0 then (if 0 < (a0.size : Int) then (colonnaderef01_ParseDec.j0 k a0 ((bt a0 0) == 45)) else (none)) else (colonnaderef01_ParseDec.j0 k a0 false)) = some (r1, r2, r3) := h
 clear h
 have HC2 := Aside0.mk H
 clear H
 go_enter Tryz.func45, Tryz.ntmps45
 go_upto_region 1 with (fail)
 go_cut [5] (fun v5 wc => ∃ (kq : Nat) (x5_1 : Bool), v5 = .bool x5_1 ∧ Aside0 (colonnaderef01_ParseDec.j0 kq a0 x5_1 = some (r1, r2, r3)) ∧ Aside0 (kq ≤ k) ∧ Drawn0 w wc)
 case first =>
  have H := HC2.out
  clear HC2
  by_cases c3 : (a0.size : Int) > 0
  ·rw [if_pos c3] at H
   have c3b0 : decide (0 < (a0.size : Int)) = true := decide_eq_true c3
   have c3b1 : decide (0 < a0.size) = true := decide_eq_true (by omega)
   clear c3
   (first | rw [c3b0] | (simp only [i64_w, i32_w]; rw [c3b0]) | skip)
   by_cases c4 : 0 < (a0.size : Int)
   ·rw [if_pos c4] at H
    have c4b0 : decide (0 < (a0.size : Int)) = true := decide_eq_true c4
    have c4b1 : decide (0 < a0.size) = true := decide_eq_true (by omega)
    clear c4
    have H' := Aside0.mk H
    clear H
    have p5 : 0 ≤ (0 : Int) := (by omega)
    have q5 : 0 < a0.size := (by have : (0 : Int) < (a0.size : Int) := of_decide_eq_true zE9_1; omega)
    have hx5 : ∀ h : 0 < a0.size, ((a0[0]'h).toNat : Int) = bt a0 0 := bt_at a0 0
    clear p5
    have qi5 : (0 < (a0.size : Int)) = True := eq_true (of_decide_eq_true zE9_1)
    replace q5 := eq_true q5
    go_wp2
    go_meet
    case rel => exact ⟨_, (((bt a0 0) == 45)), zE9_2, H', ⟨by first | omega | exact Nat.le_refl _⟩, by repeat (first | exact Drawn0.refl _ | apply Drawn0.step)⟩
   ·rw [if_neg c4] at H
    exact absurd H (by simp)
  ·rw [if_neg c3] at H
   have c3b0 : decide (0 < (a0.size : Int)) = false := decide_eq_false c3
   have c3b1 : decide (0 < a0.size) = false := decide_eq_false (by omega)
   clear c3
   (first | rw [c3b0] | (simp only [i64_w, i32_w]; rw [c3b0]) | skip)
   have H' := Aside0.mk H
   clear H
   go_wp2
   go_meet
   case rel => exact ⟨_, (false), zE9_2, H', ⟨by first | omega | exact Nat.le_refl _⟩, by repeat (first | exact Drawn0.refl _ | apply Drawn0.step)⟩
 case rest =>
  clear HC2
  obtain ⟨kq, x5_1, rfl, HA, HJ1, ⟨mc1, rfl⟩⟩ := hcut
  cases kq with
  | zero => exact absurd HA.out (by simp [colonnaderef01_ParseDec.j0])
  | succ kj1 =>
   have H := HA.out
   clear HA
   simp only [colonnaderef01_ParseDec.j0] at H
   have HC6 := Aside0.mk H
   clear H
   go_upto_if 21 with (fail)
   go_cut [0] (fun v0 wc => ∃ (kq : Nat) (x0_5 : ByteArray), v0 = .string x0_5 ∧ Aside0 (colonnaderef01_ParseDec.j1 kq x0_5 x5_1 = some (r1, r2, r3)) ∧ Aside0 (kq ≤ kj1) ∧ Drawn0 w wc)
   case first =>
    have H := HC6.out
    clear HC6
    by_cases c7 : x5_1 = true
    ·subst c7
     have H1 : (if 1 ≤ (a0.size : Int) then (colonnaderef01_ParseDec.j1 kj1 (a0.extract 1 a0.size) true) else (none)) = some (r1, r2, r3) := by rw [if_pos rfl] at H; exact H
     clear H
     have H := H1
     clear H1
     by_cases c8 : 1 ≤ (a0.size : Int)
     ·rw [if_pos c8] at H
      have c8b0 := eq_true c8
      (try (have c8n := c8; simp [size_lit] at c8n))
      (try (have c8m := eq_false (Nat.not_lt.2 c8); simp only [ByteArray.size_append, size_lit, List.length_cons, List.length_nil, Nat.reduceAdd, Nat.zero_add] at c8m))
      have c8b1 : decide (1 ≤ (a0.size : Int)) = true := decide_eq_true c8
      clear c8
      have H' := Aside0.mk H
      clear H
      go_wp2
      go_meet
      case rel => exact ⟨_, (a0.extract 1 a0.size), zE9_2, H', ⟨by have := HJ1.out; first | omega | exact Nat.le_refl _⟩, by repeat (first | exact Drawn0.refl _ | apply Drawn0.step)⟩
     ·rw [if_neg c8] at H
      exact absurd H (by simp)
    ·replace c7 := Bool.eq_false_iff.mpr c7
     subst c7
     have H1 : (colonnaderef01_ParseDec.j1 kj1 a0 false) = some (r1, r2, r3) := by rw [if_neg (show ¬ (false = true) by decide)] at H; exact H
     clear H
     have H := H1
     clear H1
     have H' := Aside0.mk H
     clear H
     go_wp2
     go_meet
     case rel => exact ⟨_, (a0), zE9_2, H', ⟨by have := HJ1.out; first | omega | exact Nat.le_refl _⟩, by repeat (first | exact Drawn0.refl _ | apply Drawn0.step)⟩
   case rest =>
    clear HC6
    obtain ⟨kq, x0_5, rfl, HA, HJ5, ⟨mc5, rfl⟩⟩ := hcut
    cases kq with
    | zero => exact absurd HA.out (by simp [colonnaderef01_ParseDec.j1])
    | succ kj5 =>
     have H := HA.out
     clear HA
     simp only [colonnaderef01_ParseDec.j1] at H
     have HC9 := Aside0.mk H
     clear H
     go_upto_block 0 with (fail)
     go_cut [6] (fun v6 wc => ∃ (kq : Nat) (x6_8 : Int), v6 = .int .i64 x6_8 ∧ Aside0 (colonnaderef01_ParseDec.j3 kq x0_5 x5_1 x6_8 = some (r1, r2, r3)) ∧ Aside0 (kq ≤ kj5) ∧ Drawn0 w wc)
     case first =>
      have H := HC9.out
      clear HC9
      have H' := Aside0.mk H
      clear H
      go_wp2
      go_loopg [6] kj5 (fun kq v6 w' => ∃ (x6_3 : Int), v6 = .int .i64 x6_3 ∧ Aside0 (colonnaderef01_ParseDec.l0 kq x0_5 x5_1 x6_3 = some (r1, r2, r3)) ∧ Aside0 (kq ≤ kj5) ∧ Drawn0 w w')
      case atStart => exact ⟨(0), zE9_2, H', ⟨Nat.le_refl _⟩, by repeat (first | exact Drawn0.refl _ | apply Drawn0.step)⟩
      case round =>
       clear H'
       obtain ⟨x6_3, rfl, HA, HK3, ⟨m3, rfl⟩⟩ := hrel
       cases gk with
       | zero => exact absurd HA.out (by simp [colonnaderef01_ParseDec.l0])
       | succ k3 =>
        have H := HA.out
        clear HA
        simp only [colonnaderef01_ParseDec.l0] at H
        by_cases c10 : x6_3 < (x0_5.size : Int)
        ·rw [if_pos c10] at H
         have c10b0 : decide (x6_3 < (x0_5.size : Int)) = true := decide_eq_true c10
         clear c10
         (first | rw [c10b0] | (simp only [i64_w, i32_w]; rw [c10b0]) | skip)
         by_cases c11 : 0 ≤ x6_3
         ·rw [if_pos c11] at H
          have c11b0 : decide (0 ≤ x6_3) = true := decide_eq_true c11
          clear c11
          by_cases c13 : (bt x0_5 x6_3) = 46
          ·rw [if_pos c13] at H
           have c13b0 : ((bt x0_5 x6_3) == 46) = true := beq_iff_eq.mpr c13
           have c13b1 : ((bt x0_5 x6_3) != 46) = false := bne_eq_false_iff_eq.mpr c13
           clear c13
           have H' := Aside0.mk H
           clear H
           have p12 : 0 ≤ (x6_3 : Int) := of_decide_eq_true zE9_1
           have q12 : x6_3 < (x0_5.size : Int) := of_decide_eq_true zE9_1
           have hx12 := bt_at x0_5 x6_3
           replace p12 := eq_true p12
           replace q12 := eq_true q12
           go_wp2
           go_meet
           case rel => exact ⟨_, (x6_3), zE9_2, H', ⟨by have := HJ1.out; have := HJ5.out; have := HK3.out; first | omega | exact Nat.le_refl _⟩, by repeat (first | exact Drawn0.refl _ | apply Drawn0.step)⟩
          ·rw [if_neg c13] at H
           have c13b0 : ((bt x0_5 x6_3) == 46) = false := beq_eq_false_iff_ne.mpr c13
           have c13b1 : ((bt x0_5 x6_3) != 46) = true := bne_iff_ne.mpr c13
           have H' := Aside0.mk H
           clear H
           have p12 : 0 ≤ (x6_3 : Int) := of_decide_eq_true zE9_1
           have q12 : x6_3 < (x0_5.size : Int) := of_decide_eq_true zE9_1
           have hx12 := bt_at x0_5 x6_3
           replace p12 := eq_true p12
           replace q12 := eq_true q12
           go_wp2
           go_roundg k3
           case measure => have := HJ1.out; have := HJ5.out; have := HK3.out; omega
           case rel => exact ⟨(wrap64 (x6_3 + 1)), zE9_2, H', ⟨by have := HJ1.out; have := HJ5.out; have := HK3.out; omega⟩, by repeat (first | exact Drawn0.refl _ | apply Drawn0.step)⟩
         ·rw [if_neg c11] at H
          exact absurd H (by simp)
        ·rw [if_neg c10] at H
         have c10b0 : decide (x6_3 < (x0_5.size : Int)) = false := decide_eq_false c10
         clear c10
         (first | rw [c10b0] | (simp only [i64_w, i32_w]; rw [c10b0]) | skip)
         have H' := Aside0.mk H
         clear H
         go_wp2
         go_meet
         case rel => exact ⟨_, (x6_3), zE9_2, H', ⟨by have := HJ1.out; have := HJ5.out; have := HK3.out; first | omega | exact Nat.le_refl _⟩, by repeat (first | exact Drawn0.refl _ | apply Drawn0.step)⟩
     case rest =>
      clear HC9
      obtain ⟨kq, x6_8, rfl, HA, HJ8, ⟨mc8, rfl⟩⟩ := hcut
      cases kq with
      | zero => exact absurd HA.out (by simp [colonnaderef01_ParseDec.j3])
      | succ kj8 =>
       have H := HA.out
       clear HA
       simp only [colonnaderef01_ParseDec.j3] at H
       by_cases c14 : 0 ≤ x6_8
       ·rw [if_pos c14] at H
        have c14b0 := eq_true c14
        (try (have c14n := c14; simp [size_lit] at c14n))
        (try (have c14m := eq_false (Nat.not_lt.2 c14); simp only [ByteArray.size_append, size_lit, List.length_cons, List.length_nil, Nat.reduceAdd, Nat.zero_add] at c14m))
        have c14b1 : decide (0 ≤ x6_8) = true := decide_eq_true c14
        clear c14
        by_cases c15 : x6_8 ≤ (x0_5.size : Int)
        ·rw [if_pos c15] at H
         have c15b0 := eq_true c15
         (try (have c15n := c15; simp [size_lit] at c15n))
         (try (have c15m := eq_false (Nat.not_lt.2 c15); simp only [ByteArray.size_append, size_lit, List.length_cons, List.length_nil, Nat.reduceAdd, Nat.zero_add] at c15m))
         have c15b1 : decide (x6_8 ≤ (x0_5.size : Int)) = true := decide_eq_true c15
         clear c15
         have HC16 := Aside0.mk H
         clear H
         go_upto_if 42 with (fail)
         go_cut [8] (fun v8 wc => ∃ (kq : Nat) (x8_15 : ByteArray), v8 = .string x8_15 ∧ Aside0 (colonnaderef01_ParseDec.j4 kq x5_1 (x0_5.extract 0 (x6_8 : Int).toNat) x8_15 = some (r1, r2, r3)) ∧ Aside0 (kq ≤ kj8) ∧ Drawn0 w wc)
         case first =>
          have H := HC16.out
          clear HC16
          by_cases c17 : x6_8 < (x0_5.size : Int)
          ·rw [if_pos c17] at H
           have c17b0 : decide (x6_8 < (x0_5.size : Int)) = true := decide_eq_true c17
           clear c17
           (first | rw [c17b0] | (simp only [i64_w, i32_w]; rw [c17b0]) | skip)
           obtain ⟨ji18, hji18⟩ : ∃ j_ : Int, (wrap64 (x6_8 + 1)) = j_ := ⟨_, rfl⟩
           replace H : (if 0 ≤ (ji18) then (if (ji18) ≤ (x0_5.size : Int) then ((colonnaderef01_digits.f kj8 (x0_5.extract ((ji18) : Int).toNat x0_5.size)).bind fun t283 => (if t283 = true then (colonnaderef01_ParseDec.j4 kj8 x5_1 (x0_5.extract 0 (x6_8 : Int).toNat) (x0_5.extract ((ji18) : Int).toNat x0_5.size)) else (some (0, 0, 12)))) else (none)) else (none)) = some (r1, r2, r3) := by first | (rw [hji18] at H; exact H) | (simp only [hji18] at H ⊢; exact H)
           have hji18w : (IntKind.i64.wrap (x6_8 + 1)) = ji18 := (i64_w _).trans hji18
           by_cases c19 : 0 ≤ (ji18)
           ·rw [if_pos c19] at H
            have c19b0 := eq_true c19
            (try (have c19n := c19; simp [size_lit] at c19n))
            (try (have c19m := eq_false (Nat.not_lt.2 c19); simp only [ByteArray.size_append, size_lit, List.length_cons, List.length_nil, Nat.reduceAdd, Nat.zero_add] at c19m))
            have c19b1 : decide (0 ≤ (ji18)) = true := decide_eq_true c19
            clear c19
            by_cases c20 : (ji18) ≤ (x0_5.size : Int)
            ·rw [if_pos c20] at H
             have c20b0 := eq_true c20
             (try (have c20n := c20; simp [size_lit] at c20n))
             (try (have c20m := eq_false (Nat.not_lt.2 c20); simp only [ByteArray.size_append, size_lit, List.length_cons, List.length_nil, Nat.reduceAdd, Nat.zero_add] at c20m))
             have c20b1 : decide ((ji18) ≤ (x0_5.size : Int)) = true := decide_eq_true c20
             clear c20
             replace H := Option.bind_eq_some_iff.mp H
             obtain ⟨t283, A210, H⟩ := H
             replace H : (if t283 = true then (colonnaderef01_ParseDec.j4 kj8 x5_1 (x0_5.extract 0 (x6_8 : Int).toNat) (x0_5.extract ((ji18) : Int).toNat x0_5.size)) else (some (0, 0, 12))) = some (r1, r2, r3) := H
             have A21 := Aside0.mk A210
             clear A210
             by_cases c22 : t283 = true
             ·subst c22
              have H1 : (colonnaderef01_ParseDec.j4 kj8 x5_1 (x0_5.extract 0 (x6_8 : Int).toNat) (x0_5.extract ((ji18) : Int).toNat x0_5.size)) = some (r1, r2, r3) := by rw [if_pos rfl] at H; exact H
              clear H
              have H := H1
              clear H1
              have H' := Aside0.mk H
              clear H
              go_wp2_with (first | ((with_reducible refine gate_callee (f := 72) rfl ?_); refine goesL_ (some 48) rfl rfl Tryz.func72 zE9_4 rfl #[.string (x0_5.extract ((ji18) : Int).toNat x0_5.size)] rfl zE9_3 ?_; (with_reducible refine (colonnaderef01_digits.calls kj8 (x0_5.extract ((ji18) : Int).toNat x0_5.size) true _ A21.out).mono ?_); rintro e w' ⟨rfl, ⟨nd, rfl⟩⟩; refine ⟨_, rfl, ?_⟩))
              go_meet
              case rel => exact ⟨_, (x0_5.extract ((ji18) : Int).toNat x0_5.size), (by first | rfl | (simp; done) | (simp only [← hji18] <;> (first | rfl | simp)) | (simp [*]; done)), H', ⟨by have := HJ1.out; have := HJ5.out; have := HJ8.out; first | omega | exact Nat.le_refl _⟩, by repeat (first | exact Drawn0.refl _ | apply Drawn0.step)⟩
             ·replace c22 := Bool.eq_false_iff.mpr c22
              subst c22
              have H1 : (some (0, 0, 12)) = some (r1, r2, r3) := by rw [if_neg (show ¬ (false = true) by decide)] at H; exact H
              clear H
              have H := H1
              clear H1
              simp only [Option.some.injEq, Prod.mk.injEq] at H
              obtain ⟨rfl, rfl, rfl⟩ := H
              go_wp2_with (first | ((with_reducible refine gate_callee (f := 72) rfl ?_); refine goesL_ (some 48) rfl rfl Tryz.func72 zE9_4 rfl #[.string (x0_5.extract ((ji18) : Int).toNat x0_5.size)] rfl zE9_3 ?_; (with_reducible refine (colonnaderef01_digits.calls kj8 (x0_5.extract ((ji18) : Int).toNat x0_5.size) false _ A21.out).mono ?_); rintro e w' ⟨rfl, ⟨nd, rfl⟩⟩; refine ⟨_, rfl, ?_⟩))
              go_ret3
              exact ⟨by first | rfl | (simp; done) | (simp only [← hji18] <;> (first | rfl | simp)) | (simp [*]; done), by repeat (first | exact Drawn0.refl _ | apply Drawn0.step)⟩
            ·rw [if_neg c20] at H
             exact absurd H (by simp)
           ·rw [if_neg c19] at H
            exact absurd H (by simp)
          ·rw [if_neg c17] at H
           have c17b0 : decide (x6_8 < (x0_5.size : Int)) = false := decide_eq_false c17
           clear c17
           (first | rw [c17b0] | (simp only [i64_w, i32_w]; rw [c17b0]) | skip)
           have H' := Aside0.mk H
           clear H
           go_wp2
           go_meet
           case rel => exact ⟨_, ((⟨#[]⟩ : ByteArray)), zE9_2, H', ⟨by have := HJ1.out; have := HJ5.out; have := HJ8.out; first | omega | exact Nat.le_refl _⟩, by repeat (first | exact Drawn0.refl _ | apply Drawn0.step)⟩
         case rest =>
          clear HC16
          (try clear c14); (try clear c14b0); (try clear c14b1); (try clear c15); (try clear c15b0); (try clear c15b1)
          obtain ⟨kq, x8_15, rfl, HA, HJ15, ⟨mc15, rfl⟩⟩ := hcut
          cases kq with
          | zero => exact absurd HA.out (by simp [colonnaderef01_ParseDec.j4])
          | succ kj15 =>
           have H := HA.out
           clear HA
           simp only [colonnaderef01_ParseDec.j4] at H
           replace H := Option.bind_eq_some_iff.mp H
           obtain ⟨t284, A230, H⟩ := H
           replace H : (if t284 = true then (if (x8_15.size : Int) > 18 then (some (0, 0, 10)) else (if (x0_5.extract 0 (x6_8 : Int).toNat).size + x8_15.size ≤ 9223372036854775807 then ((colonnaderef01_read.f kj15 ((x0_5.extract 0 (x6_8 : Int).toNat) ++ x8_15) 999999999999999999).bind fun bt285 => (if bt285.2 = true then ((colonnaderef01_signed.f kj15 bt285.1 x5_1).bind fun bt287 => (some (bt287.1, (x8_15.size : Int), bt287.2))) else (some (0, 0, 10)))) else (none))) else (some (0, 0, 12))) = some (r1, r2, r3) := H
           have A23 := Aside0.mk A230
           clear A230
           by_cases c24 : t284 = true
           ·subst c24
            have H1 : (if (x8_15.size : Int) > 18 then (some (0, 0, 10)) else (if (x0_5.extract 0 (x6_8 : Int).toNat).size + x8_15.size ≤ 9223372036854775807 then ((colonnaderef01_read.f kj15 ((x0_5.extract 0 (x6_8 : Int).toNat) ++ x8_15) 999999999999999999).bind fun bt285 => (if bt285.2 = true then ((colonnaderef01_signed.f kj15 bt285.1 x5_1).bind fun bt287 => (some (bt287.1, (x8_15.size : Int), bt287.2))) else (some (0, 0, 10)))) else (none))) = some (r1, r2, r3) := by rw [if_pos rfl] at H; exact H
            clear H
            have H := H1
            clear H1
            by_cases c25 : (x8_15.size : Int) > 18
            ·rw [if_pos c25] at H
             have c25b0 : decide (18 < (x8_15.size : Int)) = true := decide_eq_true c25
             have c25b1 : decide (18 < x8_15.size) = true := decide_eq_true (by omega)
             clear c25
             simp only [Option.some.injEq, Prod.mk.injEq] at H
             obtain ⟨rfl, rfl, rfl⟩ := H
             go_wp2_with (first | ((with_reducible refine gate_callee (f := 72) rfl ?_); refine goesL_ (some 51) rfl rfl Tryz.func72 zE9_4 rfl #[.string (x0_5.extract 0 (x6_8 : Int).toNat)] rfl zE9_0 ?_; (with_reducible refine (colonnaderef01_digits.calls kj15 (x0_5.extract 0 (x6_8 : Int).toNat) true _ A23.out).mono ?_); rintro e w' ⟨rfl, ⟨nd, rfl⟩⟩; refine ⟨_, rfl, ?_⟩))
             go_ret3
             exact ⟨by first | rfl | (simp; done) | (simp [*]; done), by repeat (first | exact Drawn0.refl _ | apply Drawn0.step)⟩
            ·rw [if_neg c25] at H
             have c25b0 : decide (18 < (x8_15.size : Int)) = false := decide_eq_false c25
             have c25b1 : decide (18 < x8_15.size) = false := decide_eq_false (by omega)
             clear c25
             by_cases c26 : (x0_5.extract 0 (x6_8 : Int).toNat).size + x8_15.size ≤ 9223372036854775807
             ·rw [if_pos c26] at H
              have c26b0 := eq_true c26
              (try (have c26n := c26; simp [size_lit] at c26n))
              (try (have c26m := eq_false (Nat.not_lt.2 c26); simp only [ByteArray.size_append, size_lit, List.length_cons, List.length_nil, Nat.reduceAdd, Nat.zero_add] at c26m))
              have c26b1 : decide ((x0_5.extract 0 (x6_8 : Int).toNat).size + x8_15.size ≤ 9223372036854775807) = true := decide_eq_true c26
              try have c26b2 : (9223372036854775807 < (x0_5.extract 0 (x6_8 : Int).toNat).size + x8_15.size) = False := eq_false (Nat.not_lt.2 c26)
              replace H := Option.bind_eq_some_iff.mp H
              obtain ⟨⟨t285, t286⟩, A270, H⟩ := H
              replace H : (if t286 = true then ((colonnaderef01_signed.f kj15 t285 x5_1).bind fun bt287 => (some (bt287.1, (x8_15.size : Int), bt287.2))) else (some (0, 0, 10))) = some (r1, r2, r3) := H
              have A27 := Aside0.mk A270
              clear A270
              by_cases c28 : t286 = true
              ·subst c28
               have H1 : ((colonnaderef01_signed.f kj15 t285 x5_1).bind fun bt287 => (some (bt287.1, (x8_15.size : Int), bt287.2))) = some (r1, r2, r3) := by rw [if_pos rfl] at H; exact H
               clear H
               have H := H1
               clear H1
               replace H := Option.bind_eq_some_iff.mp H
               obtain ⟨⟨t287, t288⟩, A290, H⟩ := H
               replace H : (some (t287, (x8_15.size : Int), t288)) = some (r1, r2, r3) := H
               have A29 := Aside0.mk A290
               clear A290
               simp only [Option.some.injEq, Prod.mk.injEq] at H
               obtain ⟨rfl, rfl, rfl⟩ := H
               go_wp2_with (first | ((with_reducible refine gate_callee (f := 72) rfl ?_); refine goesL_ (some 51) rfl rfl Tryz.func72 zE9_4 rfl #[.string (x0_5.extract 0 (x6_8 : Int).toNat)] rfl zE9_0 ?_; (with_reducible refine (colonnaderef01_digits.calls kj15 (x0_5.extract 0 (x6_8 : Int).toNat) true _ A23.out).mono ?_); rintro e w' ⟨rfl, ⟨nd, rfl⟩⟩; refine ⟨_, rfl, ?_⟩) | ((with_reducible refine gate_callee (f := 73) rfl ?_); refine goesL_ (some 60) rfl rfl Tryz.func73 zE9_4 rfl #[.string ((x0_5.extract 0 (x6_8 : Int).toNat) ++ x8_15), .int .u64 999999999999999999] rfl zE9_0 ?_; (with_reducible refine (colonnaderef01_read.calls kj15 ((x0_5.extract 0 (x6_8 : Int).toNat) ++ x8_15) 999999999999999999 t285 true _ A27.out).mono ?_); rintro e w' ⟨rfl, ⟨nd, rfl⟩⟩; refine ⟨_, rfl, ?_⟩) | ((with_reducible refine gate_callee (f := 51) rfl ?_); refine goesL_ (some 68) rfl rfl Tryz.func51 zE9_4 rfl #[.int .u64 t285, .bool x5_1] rfl zE9_0 ?_; (with_reducible refine (colonnaderef01_signed.calls kj15 t285 x5_1 t287 t288 _ A29.out).mono ?_); rintro e w' ⟨rfl, ⟨nd, rfl⟩⟩; refine ⟨_, rfl, ?_⟩))
               go_ret3
               exact ⟨by first | rfl | (simp; done) | (simp [*]; done), by repeat (first | exact Drawn0.refl _ | apply Drawn0.step)⟩
              ·replace c28 := Bool.eq_false_iff.mpr c28
               subst c28
               have H1 : (some (0, 0, 10)) = some (r1, r2, r3) := by rw [if_neg (show ¬ (false = true) by decide)] at H; exact H
               clear H
               have H := H1
               clear H1
               simp only [Option.some.injEq, Prod.mk.injEq] at H
               obtain ⟨rfl, rfl, rfl⟩ := H
               go_wp2_with (first | ((with_reducible refine gate_callee (f := 72) rfl ?_); refine goesL_ (some 51) rfl rfl Tryz.func72 zE9_4 rfl #[.string (x0_5.extract 0 (x6_8 : Int).toNat)] rfl zE9_0 ?_; (with_reducible refine (colonnaderef01_digits.calls kj15 (x0_5.extract 0 (x6_8 : Int).toNat) true _ A23.out).mono ?_); rintro e w' ⟨rfl, ⟨nd, rfl⟩⟩; refine ⟨_, rfl, ?_⟩) | ((with_reducible refine gate_callee (f := 73) rfl ?_); refine goesL_ (some 60) rfl rfl Tryz.func73 zE9_4 rfl #[.string ((x0_5.extract 0 (x6_8 : Int).toNat) ++ x8_15), .int .u64 999999999999999999] rfl zE9_0 ?_; (with_reducible refine (colonnaderef01_read.calls kj15 ((x0_5.extract 0 (x6_8 : Int).toNat) ++ x8_15) 999999999999999999 t285 false _ A27.out).mono ?_); rintro e w' ⟨rfl, ⟨nd, rfl⟩⟩; refine ⟨_, rfl, ?_⟩))
               go_ret3
               exact ⟨by first | rfl | (simp; done) | (simp [*]; done), by repeat (first | exact Drawn0.refl _ | apply Drawn0.step)⟩
             ·rw [if_neg c26] at H
              exact absurd H (by simp)
           ·replace c24 := Bool.eq_false_iff.mpr c24
            subst c24
            have H1 : (some (0, 0, 12)) = some (r1, r2, r3) := by rw [if_neg (show ¬ (false = true) by decide)] at H; exact H
            clear H
            have H := H1
            clear H1
            simp only [Option.some.injEq, Prod.mk.injEq] at H
            obtain ⟨rfl, rfl, rfl⟩ := H
            go_wp2_with (first | ((with_reducible refine gate_callee (f := 72) rfl ?_); refine goesL_ (some 51) rfl rfl Tryz.func72 zE9_4 rfl #[.string (x0_5.extract 0 (x6_8 : Int).toNat)] rfl zE9_0 ?_; (with_reducible refine (colonnaderef01_digits.calls kj15 (x0_5.extract 0 (x6_8 : Int).toNat) false _ A23.out).mono ?_); rintro e w' ⟨rfl, ⟨nd, rfl⟩⟩; refine ⟨_, rfl, ?_⟩))
            go_ret3
            exact ⟨by first | rfl | (simp; done) | (simp [*]; done), by repeat (first | exact Drawn0.refl _ | apply Drawn0.step)⟩
        ·rw [if_neg c15] at H
         exact absurd H (by simp)
       ·rw [if_neg c14] at H
        exact absurd H (by simp)

end Go.Proofs.YtjpgjggbanpegaaGreatDoor.E
