/- PRINTED BY A PROGRAM OF THIS SESSION (px.py, over the kit's print): Lean functions with the answers of Go functions of the given program, and proofs that the Go code comes to these answers; each under the conditions that its theorem states. -/
import Derived.Test.YtjpgjggbanpegaaDoorC0
import Derived.Test.YtjpgjggbanpegaaDoorC6
namespace Go.Proofs.YtjpgjggbanpegaaDoor.C
open Go.RowKit Go.Proofs.YtjpgjggbanpegaaDoorW.PrintWords Go.Proofs.YtjpgjggbanpegaaDoorW.PrintLast Go.Proofs.YtjpgjggbanpegaaDoorW.PrintMore
attribute [local go_sem] max2_int min2_int max_two min_two max_three min_three max_four min_four   -- for this text's walks alone
set_option linter.unusedVariables false
set_option linter.unusedSimpArgs false

/-! ### num_Civil: function 69 -/
mutual
def num_Civil.j0 : Nat → Int → Bool → Option (Int × Int × Int × Int)
  | 0, _, _ => none
  | k + 1, x0, x14 => if x14 = true then (some (0, 0, 0, 13)) else (num_Civil.l0 k (wrap64 (x0 + 719162)) (wrap64 ((wrap64 (Int.tdiv (wrap64 ((wrap64 (x0 + 719162)) * 400)) 146097)) + 1)))
def num_Civil.l0 : Nat → Int → Int → Option (Int × Int × Int × Int)
  | 0, _, _ => none
  | k + 1, x0, x6 => (num_years.f x6).bind fun t140 => (if t140 > x0 then (num_Civil.l0 k x0 (wrap64 (x6 - 1))) else (num_Civil.l1 k x0 x6))
def num_Civil.l1 : Nat → Int → Int → Option (Int × Int × Int × Int)
  | 0, _, _ => none
  | k + 1, x0, x6 => (num_years.f (wrap64 (x6 + 1))).bind fun t141 => (if t141 ≤ x0 then (num_Civil.l1 k x0 (wrap64 (x6 + 1))) else ((num_years.f x6).bind fun t142 => (num_Civil.l2 k x6 (wrap64 (x0 - t142)) 1)))
def num_Civil.l2 : Nat → Int → Int → Int → Option (Int × Int × Int × Int)
  | 0, _, _, _ => none
  | k + 1, x6, x7, x8 => (num_month.f x6 x8).bind fun t143 => (if x7 ≥ t143 then ((num_month.f x6 x8).bind fun t144 => (num_Civil.l2 k x6 (wrap64 (x7 - t144)) (wrap64 (x8 + 1)))) else (some (x6, x8, wrap64 (x7 + 1), 0)))
end
def num_Civil.f (k : Nat) (a0 : Int) : Option (Int × Int × Int × Int) := if a0 < (-719162) then (num_Civil.j0 k a0 true) else (num_Civil.j0 k a0 (decide (a0 > 2932896)))
theorem num_Civil.mono_l : ∀ k, (∀ y0 y1, LeO (num_Civil.j0 k y0 y1) (num_Civil.j0 (k + 1) y0 y1)) ∧ (∀ y0 y1, LeO (num_Civil.l0 k y0 y1) (num_Civil.l0 (k + 1) y0 y1)) ∧ (∀ y0 y1, LeO (num_Civil.l1 k y0 y1) (num_Civil.l1 (k + 1) y0 y1)) ∧ (∀ y0 y1 y2, LeO (num_Civil.l2 k y0 y1 y2) (num_Civil.l2 (k + 1) y0 y1 y2))
  | 0 => ⟨fun _ _ r h => by simp [num_Civil.j0] at h, fun _ _ r h => by simp [num_Civil.l0] at h, fun _ _ r h => by simp [num_Civil.l1] at h, fun _ _ _ r h => by simp [num_Civil.l2] at h⟩
  | k + 1 => by
    obtain ⟨ih0, ih1, ih2, ih3⟩ := num_Civil.mono_l k
    refine ⟨?_, ?_, ?_, ?_⟩
    · intro y0 y1
      unfold num_Civil.j0
      repeat' first
      | (with_reducible exact ih0 _ _)
      | (with_reducible exact ih1 _ _)
      | (with_reducible exact ih2 _ _)
      | (with_reducible exact ih3 _ _ _)
      | (with_reducible exact LeO.refl _)
      | (with_reducible exact LeO.none _)
      | (with_reducible refine LeO.ite ?_ ?_)
      | (with_reducible refine LeO.bind ?_ (fun _ => ?_))
      | exact ih0 _ _
      | exact ih1 _ _
      | exact ih2 _ _
      | exact ih3 _ _ _
      | exact LeO.none _
      | refine LeO.ite ?_ ?_
      | refine LeO.bind ?_ (fun _ => ?_)
    · intro y0 y1
      unfold num_Civil.l0
      repeat' first
      | (with_reducible exact ih0 _ _)
      | (with_reducible exact ih1 _ _)
      | (with_reducible exact ih2 _ _)
      | (with_reducible exact ih3 _ _ _)
      | (with_reducible exact LeO.refl _)
      | (with_reducible exact LeO.none _)
      | (with_reducible refine LeO.ite ?_ ?_)
      | (with_reducible refine LeO.bind ?_ (fun _ => ?_))
      | exact ih0 _ _
      | exact ih1 _ _
      | exact ih2 _ _
      | exact ih3 _ _ _
      | exact LeO.none _
      | refine LeO.ite ?_ ?_
      | refine LeO.bind ?_ (fun _ => ?_)
    · intro y0 y1
      unfold num_Civil.l1
      repeat' first
      | (with_reducible exact ih0 _ _)
      | (with_reducible exact ih1 _ _)
      | (with_reducible exact ih2 _ _)
      | (with_reducible exact ih3 _ _ _)
      | (with_reducible exact LeO.refl _)
      | (with_reducible exact LeO.none _)
      | (with_reducible refine LeO.ite ?_ ?_)
      | (with_reducible refine LeO.bind ?_ (fun _ => ?_))
      | exact ih0 _ _
      | exact ih1 _ _
      | exact ih2 _ _
      | exact ih3 _ _ _
      | exact LeO.none _
      | refine LeO.ite ?_ ?_
      | refine LeO.bind ?_ (fun _ => ?_)
    · intro y0 y1 y2
      unfold num_Civil.l2
      repeat' first
      | (with_reducible exact ih0 _ _)
      | (with_reducible exact ih1 _ _)
      | (with_reducible exact ih2 _ _)
      | (with_reducible exact ih3 _ _ _)
      | (with_reducible exact LeO.refl _)
      | (with_reducible exact LeO.none _)
      | (with_reducible refine LeO.ite ?_ ?_)
      | (with_reducible refine LeO.bind ?_ (fun _ => ?_))
      | exact ih0 _ _
      | exact ih1 _ _
      | exact ih2 _ _
      | exact ih3 _ _ _
      | exact LeO.none _
      | refine LeO.ite ?_ ?_
      | refine LeO.bind ?_ (fun _ => ?_)
theorem num_Civil.mono : ∀ a0 k, LeO (num_Civil.f k a0) (num_Civil.f (k + 1) a0) := by
  intro a0 k
  obtain ⟨ih0, ih1, ih2, ih3⟩ := num_Civil.mono_l k
  unfold num_Civil.f
  repeat' first
      | (with_reducible exact ih0 _ _)
      | (with_reducible exact ih1 _ _)
      | (with_reducible exact ih2 _ _)
      | (with_reducible exact ih3 _ _ _)
      | (with_reducible exact LeO.refl _)
      | (with_reducible exact LeO.none _)
      | (with_reducible refine LeO.ite ?_ ?_)
      | (with_reducible refine LeO.bind ?_ (fun _ => ?_))
      | exact ih0 _ _
      | exact ih1 _ _
      | exact ih2 _ _
      | exact ih3 _ _ _
      | exact LeO.none _
      | refine LeO.ite ?_ ?_
      | refine LeO.bind ?_ (fun _ => ?_)
set_option maxHeartbeats 8000000 in
set_option maxRecDepth 100000 in
theorem num_Civil.calls (k : Nat) (a0 : Int) (r1 : Int) (r2 : Int) (r3 : Int) (r4 : Int) (w : World) (h : num_Civil.f k a0 = some (r1, r2, r3, r4)) :
    Calls Tryd.prog 69 #[.int .i64 a0] w fun e w' => e = .returned (.tuple #[.int .i64 r1, .int .i64 r2, .int .i64 r3, .int .i64 r4]) ∧ Drawn0 w w' := by
  have H : (if a0 < (-719162) then (num_Civil.j0 k a0 true) else (num_Civil.j0 k a0 (decide (a0 > 2932896)))) = some (r1, r2, r3, r4) := h
  clear h
  have HC2 := Aside0.mk H
  clear H
  go_enter Tryd.func69, Tryd.ntmps69
  go_upto_region 1 with (fail)
  go_cut [14] (fun v14 wc => ∃ (kq : Nat) (x14_1 : Bool), v14 = .bool x14_1 ∧ Aside0 (num_Civil.j0 kq a0 x14_1 = some (r1, r2, r3, r4)) ∧ Aside0 (kq ≤ k) ∧ Drawn0 w wc)
  case first =>
    have H := HC2.out
    clear HC2
    by_cases c3 : a0 < (-719162)
    · rw [if_pos c3] at H
      have c3b0 : decide (a0 < (-719162)) = true := decide_eq_true c3
      clear c3
      (first | rw [c3b0] | (simp only [i64_w, i32_w]; rw [c3b0]) | skip)
      have H' := Aside0.mk H
      clear H
      go_wp2
      go_meet
      case rel => exact ⟨_, (true), (by first | rfl | (simp; done) | (simp [*]; done)), H', ⟨by first | omega | exact Nat.le_refl _⟩, by repeat (first | exact Drawn0.refl _ | apply Drawn0.step)⟩
    · rw [if_neg c3] at H
      have c3b0 : decide (a0 < (-719162)) = false := decide_eq_false c3
      clear c3
      (first | rw [c3b0] | (simp only [i64_w, i32_w]; rw [c3b0]) | skip)
      have H' := Aside0.mk H
      clear H
      go_wp2
      go_meet
      case rel => exact ⟨_, (decide (a0 > 2932896)), (by first | rfl | (simp; done) | (simp [*]; done)), H', ⟨by first | omega | exact Nat.le_refl _⟩, by repeat (first | exact Drawn0.refl _ | apply Drawn0.step)⟩
  case rest =>
    clear HC2
    try clear p2
    try clear c3
    try clear c3b0
    obtain ⟨kq, x14_1, rfl, HA, HJ1, ⟨mc1, rfl⟩⟩ := hcut
    cases kq with
    | zero => exact absurd HA.out (by simp [num_Civil.j0])
    | succ kj1 =>
      have H := HA.out
      clear HA
      simp only [num_Civil.j0] at H
      by_cases c4 : x14_1 = true
      · subst c4
        have H1 : (some (0, 0, 0, 13)) = some (r1, r2, r3, r4) := by rw [if_pos rfl] at H; exact H
        clear H
        have H := H1
        clear H1
        simp only [Option.some.injEq, Prod.mk.injEq] at H
        obtain ⟨rfl, rfl, rfl, rfl⟩ := H
        go_wp2
        refine bodyPost_ret (results_list (rs := [.tmp 2, .tmp 3, .tmp 4, .tmp 5]) rfl (by simp) (.tmp (.tmp (.tmp (.tmp .nil))))) rfl ?_
        exact ⟨by first | rfl | (simp; done) | (simp [*]; done), by repeat (first | exact Drawn0.refl _ | apply Drawn0.step)⟩
      · replace c4 := Bool.eq_false_iff.mpr c4
        subst c4
        have H1 : (num_Civil.l0 kj1 (wrap64 (a0 + 719162)) (wrap64 ((wrap64 (Int.tdiv (wrap64 ((wrap64 (a0 + 719162)) * 400)) 146097)) + 1))) = some (r1, r2, r3, r4) := by rw [if_neg (show ¬ (false = true) by decide)] at H; exact H
        clear H
        have H := H1
        clear H1
        have H' := Aside0.mk H
        clear H
        go_wp2
        go_loopg [6] kj1 (fun kq v6 w' => ∃ (x6_2 : Int), v6 = .int .i64 x6_2 ∧ Aside0 (num_Civil.l0 kq (wrap64 (a0 + 719162)) x6_2 = some (r1, r2, r3, r4)) ∧ Aside0 (kq ≤ kj1) ∧ Drawn0 w w')
        case atStart => exact ⟨(wrap64 ((wrap64 (Int.tdiv (wrap64 ((wrap64 (a0 + 719162)) * 400)) 146097)) + 1)), (by first | rfl | (simp; done) | (simp [*]; done)), H', ⟨Nat.le_refl _⟩, by repeat (first | exact Drawn0.refl _ | apply Drawn0.step)⟩
        case round =>
          clear H'
          try clear c1
          try clear p2
          try clear c3
          try clear c3b0
          try clear c4
          try clear p2
          obtain ⟨x6_2, rfl, HA, HK2, ⟨m2, rfl⟩⟩ := hrel
          cases gk with
          | zero => exact absurd HA.out (by simp [num_Civil.l0])
          | succ k2 =>
            have H := HA.out
            clear HA
            simp only [num_Civil.l0] at H
            replace H := Option.bind_eq_some_iff.mp H
            obtain ⟨t140, A50, H⟩ := H
            replace H : (if t140 > (wrap64 (a0 + 719162)) then (num_Civil.l0 k2 (wrap64 (a0 + 719162)) (wrap64 (x6_2 - 1))) else (num_Civil.l1 k2 (wrap64 (a0 + 719162)) x6_2)) = some (r1, r2, r3, r4) := H
            have A5 := Aside0.mk A50
            clear A50
            by_cases c6 : t140 > (wrap64 (a0 + 719162))
            · rw [if_pos c6] at H
              have c6b0 : decide ((wrap64 (a0 + 719162)) < t140) = true := decide_eq_true c6
              clear c6
              have H' := Aside0.mk H
              clear H
              go_wp2_with (first | ((with_reducible refine gate_callee (f := 84) rfl ?_); refine goesL_ (some 22) rfl rfl Tryd.func84 (by kernel_rfl) rfl #[.int .i64 x6_2] rfl (by (try simp only [List.map_toArray, List.map_cons, List.map_nil]); first | done | rfl | (simp only [List.length_drop, List.length_take]; rfl)) ?_; (with_reducible refine (num_years.calls x6_2 t140 _ A5.out).mono ?_); rintro e w' ⟨rfl, ⟨nd, rfl⟩⟩; refine ⟨_, rfl, ?_⟩))
              go_roundg k2
              case measure => have := HJ1.out; have := HK2.out; omega
              case rel => exact ⟨(wrap64 (x6_2 - 1)), (by first | rfl | (simp; done) | (simp [*]; done)), H', ⟨by have := HJ1.out; have := HK2.out; omega⟩, by repeat (first | exact Drawn0.refl _ | apply Drawn0.step)⟩
            · rw [if_neg c6] at H
              have c6b0 : decide ((wrap64 (a0 + 719162)) < t140) = false := decide_eq_false c6
              clear c6
              have H' := Aside0.mk H
              clear H
              go_wp2_with (first | ((with_reducible refine gate_callee (f := 84) rfl ?_); refine goesL_ (some 22) rfl rfl Tryd.func84 (by kernel_rfl) rfl #[.int .i64 x6_2] rfl (by (try simp only [List.map_toArray, List.map_cons, List.map_nil]); first | done | rfl | (simp only [List.length_drop, List.length_take]; rfl)) ?_; (with_reducible refine (num_years.calls x6_2 t140 _ A5.out).mono ?_); rintro e w' ⟨rfl, ⟨nd, rfl⟩⟩; refine ⟨_, rfl, ?_⟩))
              go_loopg [6] k2 (fun kq v6 w' => ∃ (x6_3 : Int), v6 = .int .i64 x6_3 ∧ Aside0 (num_Civil.l1 kq (wrap64 (a0 + 719162)) x6_3 = some (r1, r2, r3, r4)) ∧ Aside0 (kq ≤ k2) ∧ Drawn0 w w')
              case atStart => exact ⟨(x6_2), (by first | rfl | (simp; done) | (simp [*]; done)), H', ⟨Nat.le_refl _⟩, by repeat (first | exact Drawn0.refl _ | apply Drawn0.step)⟩
              case round =>
                clear H'
                try clear c1
                try clear p2
                try clear c3
                try clear c3b0
                try clear c4
                try clear c6
                try clear c6b0
                try clear p6
                try clear p2
                obtain ⟨x6_3, rfl, HA, HK3, ⟨m3, rfl⟩⟩ := hrel
                cases gk with
                | zero => exact absurd HA.out (by simp [num_Civil.l1])
                | succ k3 =>
                  have H := HA.out
                  clear HA
                  simp only [num_Civil.l1] at H
                  replace H := Option.bind_eq_some_iff.mp H
                  obtain ⟨t141, A70, H⟩ := H
                  replace H : (if t141 ≤ (wrap64 (a0 + 719162)) then (num_Civil.l1 k3 (wrap64 (a0 + 719162)) (wrap64 (x6_3 + 1))) else ((num_years.f x6_3).bind fun t142 => (num_Civil.l2 k3 x6_3 (wrap64 ((wrap64 (a0 + 719162)) - t142)) 1))) = some (r1, r2, r3, r4) := H
                  have A7 := Aside0.mk A70
                  clear A70
                  by_cases c8 : t141 ≤ (wrap64 (a0 + 719162))
                  · rw [if_pos c8] at H
                    have c8b0 : decide (t141 ≤ (wrap64 (a0 + 719162))) = true := decide_eq_true c8
                    clear c8
                    have H' := Aside0.mk H
                    clear H
                    go_wp2_with (first | ((with_reducible refine gate_callee (f := 84) rfl ?_); refine goesL_ (some 29) rfl rfl Tryd.func84 (by kernel_rfl) rfl #[.int .i64 (wrap64 (x6_3 + 1))] rfl (by (try simp only [List.map_toArray, List.map_cons, List.map_nil]); first | done | rfl | (simp only [List.length_drop, List.length_take]; rfl)) ?_; (with_reducible refine (num_years.calls (wrap64 (x6_3 + 1)) t141 _ A7.out).mono ?_); rintro e w' ⟨rfl, ⟨nd, rfl⟩⟩; refine ⟨_, rfl, ?_⟩))
                    go_roundg k3
                    case measure => have := HJ1.out; have := HK2.out; have := HK3.out; omega
                    case rel => exact ⟨(wrap64 (x6_3 + 1)), (by first | rfl | (simp; done) | (simp [*]; done)), H', ⟨by have := HJ1.out; have := HK2.out; have := HK3.out; omega⟩, by repeat (first | exact Drawn0.refl _ | apply Drawn0.step)⟩
                  · rw [if_neg c8] at H
                    have c8b0 : decide (t141 ≤ (wrap64 (a0 + 719162))) = false := decide_eq_false c8
                    clear c8
                    replace H := Option.bind_eq_some_iff.mp H
                    obtain ⟨t142, A90, H⟩ := H
                    replace H : (num_Civil.l2 k3 x6_3 (wrap64 ((wrap64 (a0 + 719162)) - t142)) 1) = some (r1, r2, r3, r4) := H
                    have A9 := Aside0.mk A90
                    clear A90
                    have H' := Aside0.mk H
                    clear H
                    go_wp2_with (first | ((with_reducible refine gate_callee (f := 84) rfl ?_); refine goesL_ (some 29) rfl rfl Tryd.func84 (by kernel_rfl) rfl #[.int .i64 (wrap64 (x6_3 + 1))] rfl (by (try simp only [List.map_toArray, List.map_cons, List.map_nil]); first | done | rfl | (simp only [List.length_drop, List.length_take]; rfl)) ?_; (with_reducible refine (num_years.calls (wrap64 (x6_3 + 1)) t141 _ A7.out).mono ?_); rintro e w' ⟨rfl, ⟨nd, rfl⟩⟩; refine ⟨_, rfl, ?_⟩) | ((with_reducible refine gate_callee (f := 84) rfl ?_); refine goesL_ (some 36) rfl rfl Tryd.func84 (by kernel_rfl) rfl #[.int .i64 x6_3] rfl (by (try simp only [List.map_toArray, List.map_cons, List.map_nil]); first | done | rfl | (simp only [List.length_drop, List.length_take]; rfl)) ?_; (with_reducible refine (num_years.calls x6_3 t142 _ A9.out).mono ?_); rintro e w' ⟨rfl, ⟨nd, rfl⟩⟩; refine ⟨_, rfl, ?_⟩))
                    go_loopg [7, 8] k3 (fun kq v7 v8 w' => ∃ (x7_4 : Int) (x8_4 : Int), v7 = .int .i64 x7_4 ∧ v8 = .int .i64 x8_4 ∧ Aside0 (num_Civil.l2 kq x6_3 x7_4 x8_4 = some (r1, r2, r3, r4)) ∧ Aside0 (kq ≤ k3) ∧ Drawn0 w w')
                    case atStart => exact ⟨(wrap64 ((wrap64 (a0 + 719162)) - t142)), (1), (by first | rfl | (simp; done) | (simp [*]; done)), (by first | rfl | (simp; done) | (simp [*]; done)), H', ⟨Nat.le_refl _⟩, by repeat (first | exact Drawn0.refl _ | apply Drawn0.step)⟩
                    case round =>
                      clear H'
                      try clear c1
                      try clear p2
                      try clear c3
                      try clear c3b0
                      try clear c4
                      try clear c6
                      try clear c6b0
                      try clear p6
                      try clear c8
                      try clear c8b0
                      try clear p2
                      try clear p6
                      obtain ⟨x7_4, x8_4, rfl, rfl, HA, HK4, ⟨m4, rfl⟩⟩ := hrel
                      cases gk with
                      | zero => exact absurd HA.out (by simp [num_Civil.l2])
                      | succ k4 =>
                        have H := HA.out
                        clear HA
                        simp only [num_Civil.l2] at H
                        replace H := Option.bind_eq_some_iff.mp H
                        obtain ⟨t143, A100, H⟩ := H
                        replace H : (if x7_4 ≥ t143 then ((num_month.f x6_3 x8_4).bind fun t144 => (num_Civil.l2 k4 x6_3 (wrap64 (x7_4 - t144)) (wrap64 (x8_4 + 1)))) else (some (x6_3, x8_4, wrap64 (x7_4 + 1), 0))) = some (r1, r2, r3, r4) := H
                        have A10 := Aside0.mk A100
                        clear A100
                        by_cases c11 : x7_4 ≥ t143
                        · rw [if_pos c11] at H
                          have c11b0 : decide (t143 ≤ x7_4) = true := decide_eq_true c11
                          clear c11
                          replace H := Option.bind_eq_some_iff.mp H
                          obtain ⟨t144, A120, H⟩ := H
                          replace H : (num_Civil.l2 k4 x6_3 (wrap64 (x7_4 - t144)) (wrap64 (x8_4 + 1))) = some (r1, r2, r3, r4) := H
                          have A12 := Aside0.mk A120
                          clear A120
                          have H' := Aside0.mk H
                          clear H
                          go_wp2_with (first | ((with_reducible refine gate_callee (f := 85) rfl ?_); refine goesL_ (some 41) rfl rfl Tryd.func85 (by kernel_rfl) rfl #[.int .i64 x6_3, .int .i64 x8_4] rfl (by (try simp only [List.map_toArray, List.map_cons, List.map_nil]); first | done | rfl | (simp only [List.length_drop, List.length_take]; rfl)) ?_; (with_reducible refine (num_month.calls x6_3 x8_4 t143 _ A10.out).mono ?_); rintro e w' ⟨rfl, ⟨nd, rfl⟩⟩; refine ⟨_, rfl, ?_⟩) | ((with_reducible refine gate_callee (f := 85) rfl ?_); refine goesL_ (some 48) rfl rfl Tryd.func85 (by kernel_rfl) rfl #[.int .i64 x6_3, .int .i64 x8_4] rfl (by (try simp only [List.map_toArray, List.map_cons, List.map_nil]); first | done | rfl | (simp only [List.length_drop, List.length_take]; rfl)) ?_; (with_reducible refine (num_month.calls x6_3 x8_4 t144 _ A12.out).mono ?_); rintro e w' ⟨rfl, ⟨nd, rfl⟩⟩; refine ⟨_, rfl, ?_⟩))
                          go_roundg k4
                          case measure => have := HJ1.out; have := HK2.out; have := HK3.out; have := HK4.out; omega
                          case rel => exact ⟨(wrap64 (x7_4 - t144)), (wrap64 (x8_4 + 1)), (by first | rfl | (simp; done) | (simp [*]; done)), (by first | rfl | (simp; done) | (simp [*]; done)), H', ⟨by have := HJ1.out; have := HK2.out; have := HK3.out; have := HK4.out; omega⟩, by repeat (first | exact Drawn0.refl _ | apply Drawn0.step)⟩
                        · rw [if_neg c11] at H
                          have c11b0 : decide (t143 ≤ x7_4) = false := decide_eq_false c11
                          clear c11
                          simp only [Option.some.injEq, Prod.mk.injEq] at H
                          obtain ⟨rfl, rfl, rfl, rfl⟩ := H
                          go_wp2_with (first | ((with_reducible refine gate_callee (f := 85) rfl ?_); refine goesL_ (some 41) rfl rfl Tryd.func85 (by kernel_rfl) rfl #[.int .i64 x6_3, .int .i64 x8_4] rfl (by (try simp only [List.map_toArray, List.map_cons, List.map_nil]); first | done | rfl | (simp only [List.length_drop, List.length_take]; rfl)) ?_; (with_reducible refine (num_month.calls x6_3 x8_4 t143 _ A10.out).mono ?_); rintro e w' ⟨rfl, ⟨nd, rfl⟩⟩; refine ⟨_, rfl, ?_⟩))
                          refine bodyPost_ret (results_list (rs := [.tmp 2, .tmp 3, .tmp 4, .tmp 5]) rfl (by simp) (.tmp (.tmp (.tmp (.tmp .nil))))) rfl ?_
                          exact ⟨by first | rfl | (simp; done) | (simp [*]; done), by repeat (first | exact Drawn0.refl _ | apply Drawn0.step)⟩

/-! ### strconv_Itoa: function 70, by hand -/
def strconv_Itoa.f (a0 : Int) : Option (ByteArray) := if -9223372036854775808 ≤ a0 then (if a0 ≤ 9223372036854775807 then some ⟨(Lib.itoa a0).toArray⟩ else none) else none
set_option maxHeartbeats 8000000 in
set_option maxRecDepth 100000 in
theorem strconv_Itoa.calls (a0 : Int) (r : ByteArray) (w : World) (h : strconv_Itoa.f a0 = some r) (hG : Gl w) :
    Calls Tryd.prog 70 #[.int .i64 a0] w fun e w' => e = .returned (.string r) ∧ Below w.heap.size w w' := by
  unfold strconv_Itoa.f at h
  by_cases h1 : -9223372036854775808 ≤ a0
  · rw [if_pos h1] at h
    by_cases h2 : a0 ≤ 9223372036854775807
    · rw [if_pos h2] at h
      obtain rfl := Option.some.inj h
      refine (Tryd.strconv_Itoa a0 h1 h2 w hG.pow).mono ?_
      rintro e w' ⟨rfl, k, os, rfl⟩
      exact ⟨rfl, Lib.below_grow _ _ (Nat.le_refl _) _ _⟩
    · rw [if_neg h2] at h; exact absurd h (by simp)
  · rw [if_neg h1] at h; exact absurd h (by simp)


/-! ### num_FormatDay: function 49 -/
def num_FormatDay.f (k : Nat) (a0 : Int) : Option (ByteArray × Int) := (num_Civil.f k a0).bind fun bt145 => (if bt145.2.2.2 = 0 then ((strconv_Itoa.f bt145.1).bind fun t149 => ((num_pad.f t149 4).bind fun t150 => (if t150.size + 1 ≤ 9223372036854775807 then ((strconv_Itoa.f bt145.2.1).bind fun t151 => ((num_pad.f t151 2).bind fun t152 => (if (t150 ++ (⟨#[45]⟩ : ByteArray)).size + t152.size ≤ 9223372036854775807 then (if ((t150 ++ (⟨#[45]⟩ : ByteArray)) ++ t152).size + 1 ≤ 9223372036854775807 then ((strconv_Itoa.f bt145.2.2.1).bind fun t153 => ((num_pad.f t153 2).bind fun t154 => (if (((t150 ++ (⟨#[45]⟩ : ByteArray)) ++ t152) ++ (⟨#[45]⟩ : ByteArray)).size + t154.size ≤ 9223372036854775807 then (some ((((t150 ++ (⟨#[45]⟩ : ByteArray)) ++ t152) ++ (⟨#[45]⟩ : ByteArray)) ++ t154, 0)) else (none)))) else (none)) else (none)))) else (none)))) else (some ((⟨#[]⟩ : ByteArray), bt145.2.2.2)))
theorem num_FormatDay.mono : ∀ a0 k, LeO (num_FormatDay.f k a0) (num_FormatDay.f (k + 1) a0) := by
  intro a0 k
  unfold num_FormatDay.f
  repeat' first
      | (with_reducible exact num_Civil.mono _ _)
      | (with_reducible exact LeO.refl _)
      | (with_reducible exact LeO.none _)
      | (with_reducible refine LeO.ite ?_ ?_)
      | (with_reducible refine LeO.bind ?_ (fun _ => ?_))
      | exact num_Civil.mono _ _
      | exact LeO.none _
      | refine LeO.ite ?_ ?_
      | refine LeO.bind ?_ (fun _ => ?_)
set_option maxHeartbeats 8000000 in
set_option maxRecDepth 100000 in
theorem num_FormatDay.calls (k : Nat) (a0 : Int) (r1 : ByteArray) (r2 : Int) (w : World) (h : num_FormatDay.f k a0 = some (r1, r2)) (hG : Gl w) :
    Calls Tryd.prog 49 #[.int .i64 a0] w fun e w' => e = .returned (.tuple #[.string r1, .int .i64 r2]) ∧ Below w.heap.size w w' := by
  have HG := Aside0.mk hG
  clear hG
  have HB := Aside0.mk (Below.refl w.heap.size w)
  have H : ((num_Civil.f k a0).bind fun bt145 => (if bt145.2.2.2 = 0 then ((strconv_Itoa.f bt145.1).bind fun t149 => ((num_pad.f t149 4).bind fun t150 => (if t150.size + 1 ≤ 9223372036854775807 then ((strconv_Itoa.f bt145.2.1).bind fun t151 => ((num_pad.f t151 2).bind fun t152 => (if (t150 ++ (⟨#[45]⟩ : ByteArray)).size + t152.size ≤ 9223372036854775807 then (if ((t150 ++ (⟨#[45]⟩ : ByteArray)) ++ t152).size + 1 ≤ 9223372036854775807 then ((strconv_Itoa.f bt145.2.2.1).bind fun t153 => ((num_pad.f t153 2).bind fun t154 => (if (((t150 ++ (⟨#[45]⟩ : ByteArray)) ++ t152) ++ (⟨#[45]⟩ : ByteArray)).size + t154.size ≤ 9223372036854775807 then (some ((((t150 ++ (⟨#[45]⟩ : ByteArray)) ++ t152) ++ (⟨#[45]⟩ : ByteArray)) ++ t154, 0)) else (none)))) else (none)) else (none)))) else (none)))) else (some ((⟨#[]⟩ : ByteArray), bt145.2.2.2)))) = some (r1, r2) := h
  clear h
  replace H := Option.bind_eq_some_iff.mp H
  obtain ⟨⟨t145, t146, t147, t148⟩, A20, H⟩ := H
  replace H : (if t148 = 0 then ((strconv_Itoa.f t145).bind fun t149 => ((num_pad.f t149 4).bind fun t150 => (if t150.size + 1 ≤ 9223372036854775807 then ((strconv_Itoa.f t146).bind fun t151 => ((num_pad.f t151 2).bind fun t152 => (if (t150 ++ (⟨#[45]⟩ : ByteArray)).size + t152.size ≤ 9223372036854775807 then (if ((t150 ++ (⟨#[45]⟩ : ByteArray)) ++ t152).size + 1 ≤ 9223372036854775807 then ((strconv_Itoa.f t147).bind fun t153 => ((num_pad.f t153 2).bind fun t154 => (if (((t150 ++ (⟨#[45]⟩ : ByteArray)) ++ t152) ++ (⟨#[45]⟩ : ByteArray)).size + t154.size ≤ 9223372036854775807 then (some ((((t150 ++ (⟨#[45]⟩ : ByteArray)) ++ t152) ++ (⟨#[45]⟩ : ByteArray)) ++ t154, 0)) else (none)))) else (none)) else (none)))) else (none)))) else (some ((⟨#[]⟩ : ByteArray), t148))) = some (r1, r2) := H
  have A2 := Aside0.mk A20
  clear A20
  by_cases c3 : t148 = 0
  · rw [if_pos c3] at H
    have c3b0 : (t148 == 0) = true := beq_iff_eq.mpr c3
    have c3b1 : (t148 != 0) = false := bne_eq_false_iff_eq.mpr c3
    clear c3
    replace H := Option.bind_eq_some_iff.mp H
    obtain ⟨t149, A40, H⟩ := H
    replace H : ((num_pad.f t149 4).bind fun t150 => (if t150.size + 1 ≤ 9223372036854775807 then ((strconv_Itoa.f t146).bind fun t151 => ((num_pad.f t151 2).bind fun t152 => (if (t150 ++ (⟨#[45]⟩ : ByteArray)).size + t152.size ≤ 9223372036854775807 then (if ((t150 ++ (⟨#[45]⟩ : ByteArray)) ++ t152).size + 1 ≤ 9223372036854775807 then ((strconv_Itoa.f t147).bind fun t153 => ((num_pad.f t153 2).bind fun t154 => (if (((t150 ++ (⟨#[45]⟩ : ByteArray)) ++ t152) ++ (⟨#[45]⟩ : ByteArray)).size + t154.size ≤ 9223372036854775807 then (some ((((t150 ++ (⟨#[45]⟩ : ByteArray)) ++ t152) ++ (⟨#[45]⟩ : ByteArray)) ++ t154, 0)) else (none)))) else (none)) else (none)))) else (none))) = some (r1, r2) := H
    have A4 := Aside0.mk A40
    clear A40
    replace H := Option.bind_eq_some_iff.mp H
    obtain ⟨t150, A50, H⟩ := H
    replace H : (if t150.size + 1 ≤ 9223372036854775807 then ((strconv_Itoa.f t146).bind fun t151 => ((num_pad.f t151 2).bind fun t152 => (if (t150 ++ (⟨#[45]⟩ : ByteArray)).size + t152.size ≤ 9223372036854775807 then (if ((t150 ++ (⟨#[45]⟩ : ByteArray)) ++ t152).size + 1 ≤ 9223372036854775807 then ((strconv_Itoa.f t147).bind fun t153 => ((num_pad.f t153 2).bind fun t154 => (if (((t150 ++ (⟨#[45]⟩ : ByteArray)) ++ t152) ++ (⟨#[45]⟩ : ByteArray)).size + t154.size ≤ 9223372036854775807 then (some ((((t150 ++ (⟨#[45]⟩ : ByteArray)) ++ t152) ++ (⟨#[45]⟩ : ByteArray)) ++ t154, 0)) else (none)))) else (none)) else (none)))) else (none)) = some (r1, r2) := H
    have A5 := Aside0.mk A50
    clear A50
    by_cases c6 : t150.size + 1 ≤ 9223372036854775807
    · rw [if_pos c6] at H
      have c6b0 := eq_true c6
      (try (have c6n := c6; simp [size_lit] at c6n))
      have c6b1 : decide (t150.size + 1 ≤ 9223372036854775807) = true := decide_eq_true c6
      try have c6b2 : (9223372036854775807 < t150.size + 1) = False := eq_false (Nat.not_lt.2 c6)
      replace H := Option.bind_eq_some_iff.mp H
      obtain ⟨t151, A70, H⟩ := H
      replace H : ((num_pad.f t151 2).bind fun t152 => (if (t150 ++ (⟨#[45]⟩ : ByteArray)).size + t152.size ≤ 9223372036854775807 then (if ((t150 ++ (⟨#[45]⟩ : ByteArray)) ++ t152).size + 1 ≤ 9223372036854775807 then ((strconv_Itoa.f t147).bind fun t153 => ((num_pad.f t153 2).bind fun t154 => (if (((t150 ++ (⟨#[45]⟩ : ByteArray)) ++ t152) ++ (⟨#[45]⟩ : ByteArray)).size + t154.size ≤ 9223372036854775807 then (some ((((t150 ++ (⟨#[45]⟩ : ByteArray)) ++ t152) ++ (⟨#[45]⟩ : ByteArray)) ++ t154, 0)) else (none)))) else (none)) else (none))) = some (r1, r2) := H
      have A7 := Aside0.mk A70
      clear A70
      replace H := Option.bind_eq_some_iff.mp H
      obtain ⟨t152, A80, H⟩ := H
      replace H : (if (t150 ++ (⟨#[45]⟩ : ByteArray)).size + t152.size ≤ 9223372036854775807 then (if ((t150 ++ (⟨#[45]⟩ : ByteArray)) ++ t152).size + 1 ≤ 9223372036854775807 then ((strconv_Itoa.f t147).bind fun t153 => ((num_pad.f t153 2).bind fun t154 => (if (((t150 ++ (⟨#[45]⟩ : ByteArray)) ++ t152) ++ (⟨#[45]⟩ : ByteArray)).size + t154.size ≤ 9223372036854775807 then (some ((((t150 ++ (⟨#[45]⟩ : ByteArray)) ++ t152) ++ (⟨#[45]⟩ : ByteArray)) ++ t154, 0)) else (none)))) else (none)) else (none)) = some (r1, r2) := H
      have A8 := Aside0.mk A80
      clear A80
      by_cases c9 : (t150 ++ (⟨#[45]⟩ : ByteArray)).size + t152.size ≤ 9223372036854775807
      · rw [if_pos c9] at H
        have c9b0 := eq_true c9
        (try (have c9n := c9; simp [size_lit] at c9n))
        have c9b1 : decide ((t150 ++ (⟨#[45]⟩ : ByteArray)).size + t152.size ≤ 9223372036854775807) = true := decide_eq_true c9
        try have c9b2 : (9223372036854775807 < (t150 ++ (⟨#[45]⟩ : ByteArray)).size + t152.size) = False := eq_false (Nat.not_lt.2 c9)
        by_cases c10 : ((t150 ++ (⟨#[45]⟩ : ByteArray)) ++ t152).size + 1 ≤ 9223372036854775807
        · rw [if_pos c10] at H
          have c10b0 := eq_true c10
          (try (have c10n := c10; simp [size_lit] at c10n))
          have c10b1 : decide (((t150 ++ (⟨#[45]⟩ : ByteArray)) ++ t152).size + 1 ≤ 9223372036854775807) = true := decide_eq_true c10
          try have c10b2 : (9223372036854775807 < ((t150 ++ (⟨#[45]⟩ : ByteArray)) ++ t152).size + 1) = False := eq_false (Nat.not_lt.2 c10)
          replace H := Option.bind_eq_some_iff.mp H
          obtain ⟨t153, A110, H⟩ := H
          replace H : ((num_pad.f t153 2).bind fun t154 => (if (((t150 ++ (⟨#[45]⟩ : ByteArray)) ++ t152) ++ (⟨#[45]⟩ : ByteArray)).size + t154.size ≤ 9223372036854775807 then (some ((((t150 ++ (⟨#[45]⟩ : ByteArray)) ++ t152) ++ (⟨#[45]⟩ : ByteArray)) ++ t154, 0)) else (none))) = some (r1, r2) := H
          have A11 := Aside0.mk A110
          clear A110
          replace H := Option.bind_eq_some_iff.mp H
          obtain ⟨t154, A120, H⟩ := H
          replace H : (if (((t150 ++ (⟨#[45]⟩ : ByteArray)) ++ t152) ++ (⟨#[45]⟩ : ByteArray)).size + t154.size ≤ 9223372036854775807 then (some ((((t150 ++ (⟨#[45]⟩ : ByteArray)) ++ t152) ++ (⟨#[45]⟩ : ByteArray)) ++ t154, 0)) else (none)) = some (r1, r2) := H
          have A12 := Aside0.mk A120
          clear A120
          by_cases c13 : (((t150 ++ (⟨#[45]⟩ : ByteArray)) ++ t152) ++ (⟨#[45]⟩ : ByteArray)).size + t154.size ≤ 9223372036854775807
          · rw [if_pos c13] at H
            have c13b0 := eq_true c13
            (try (have c13n := c13; simp [size_lit] at c13n))
            have c13b1 : decide ((((t150 ++ (⟨#[45]⟩ : ByteArray)) ++ t152) ++ (⟨#[45]⟩ : ByteArray)).size + t154.size ≤ 9223372036854775807) = true := decide_eq_true c13
            try have c13b2 : (9223372036854775807 < (((t150 ++ (⟨#[45]⟩ : ByteArray)) ++ t152) ++ (⟨#[45]⟩ : ByteArray)).size + t154.size) = False := eq_false (Nat.not_lt.2 c13)
            simp only [Option.some.injEq, Prod.mk.injEq] at H
            obtain ⟨rfl, rfl⟩ := H
            go_enter Tryd.func49, Tryd.ntmps49
            go_wp2_with (first | ((with_reducible refine gate_callee (f := 69) rfl ?_); refine goesL_ (some 10) rfl rfl Tryd.func69 (by kernel_rfl) rfl #[.int .i64 a0] rfl (by (try simp only [List.map_toArray, List.map_cons, List.map_nil]); first | done | rfl | (simp only [List.length_drop, List.length_take]; rfl)) ?_; (with_reducible refine (num_Civil.calls k a0 t145 t146 t147 t148 _ A2.out).mono ?_); rintro e w' ⟨rfl, ⟨nd, rfl⟩⟩; refine ⟨_, rfl, ?_⟩) | ((with_reducible refine gate_callee (f := 70) rfl ?_); refine goesL_ (some 19) rfl rfl Tryd.func70 (by kernel_rfl) rfl #[.int .i64 t145] rfl (by (try simp only [List.map_toArray, List.map_cons, List.map_nil]); first | done | rfl | (simp only [List.length_drop, List.length_take]; rfl)) ?_; (with_reducible refine (strconv_Itoa.calls t145 t149 _ A4.out (Gl.of HG.out (by repeat (first | exact HB.out | apply below_alloc | apply pw_below_drewN | apply below_drew1)))).mono ?_); rintro e w14 ⟨rfl, hb⟩; refine ⟨_, rfl, ?_⟩; have n0_ := Aside0.mk (below_step (by repeat (first | (with_reducible first | exact HB.out | apply below_alloc | apply pw_below_drewN | apply below_drew1) | exact HB.out)) hb); clear HB; have HB := n0_; clear n0_; (try clear hb); (try clear hb2); (try clear hk); (try clear hi)) | ((with_reducible refine gate_callee (f := 68) rfl ?_); refine goesL_ (some 20) rfl rfl Tryd.func68 (by kernel_rfl) rfl #[.string t149, .int .i64 4] rfl (by (try simp only [List.map_toArray, List.map_cons, List.map_nil]); first | done | rfl | (simp only [List.length_drop, List.length_take]; rfl)) ?_; (with_reducible refine (num_pad.calls t149 4 t150 _ A5.out).mono ?_); rintro e w15 ⟨rfl, hb⟩; refine ⟨_, rfl, ?_⟩; have n0_ := Aside0.mk (below_step (by repeat (first | (with_reducible first | exact HB.out | apply below_alloc | apply pw_below_drewN | apply below_drew1) | exact HB.out)) hb); clear HB; have HB := n0_; clear n0_; (try clear hb); (try clear hb2); (try clear hk); (try clear hi)) | ((with_reducible refine gate_callee (f := 70) rfl ?_); refine goesL_ (some 23) rfl rfl Tryd.func70 (by kernel_rfl) rfl #[.int .i64 t146] rfl (by (try simp only [List.map_toArray, List.map_cons, List.map_nil]); first | done | rfl | (simp only [List.length_drop, List.length_take]; rfl)) ?_; (with_reducible refine (strconv_Itoa.calls t146 t151 _ A7.out (Gl.of HG.out (by repeat (first | exact HB.out | apply below_alloc | apply pw_below_drewN | apply below_drew1)))).mono ?_); rintro e w16 ⟨rfl, hb⟩; refine ⟨_, rfl, ?_⟩; have n0_ := Aside0.mk (below_step (by repeat (first | (with_reducible first | exact HB.out | apply below_alloc | apply pw_below_drewN | apply below_drew1) | exact HB.out)) hb); clear HB; have HB := n0_; clear n0_; (try clear hb); (try clear hb2); (try clear hk); (try clear hi)) | ((with_reducible refine gate_callee (f := 68) rfl ?_); refine goesL_ (some 24) rfl rfl Tryd.func68 (by kernel_rfl) rfl #[.string t151, .int .i64 2] rfl (by (try simp only [List.map_toArray, List.map_cons, List.map_nil]); first | done | rfl | (simp only [List.length_drop, List.length_take]; rfl)) ?_; (with_reducible refine (num_pad.calls t151 2 t152 _ A8.out).mono ?_); rintro e w17 ⟨rfl, hb⟩; refine ⟨_, rfl, ?_⟩; have n0_ := Aside0.mk (below_step (by repeat (first | (with_reducible first | exact HB.out | apply below_alloc | apply pw_below_drewN | apply below_drew1) | exact HB.out)) hb); clear HB; have HB := n0_; clear n0_; (try clear hb); (try clear hb2); (try clear hk); (try clear hi)) | ((with_reducible refine gate_callee (f := 70) rfl ?_); refine goesL_ (some 28) rfl rfl Tryd.func70 (by kernel_rfl) rfl #[.int .i64 t147] rfl (by (try simp only [List.map_toArray, List.map_cons, List.map_nil]); first | done | rfl | (simp only [List.length_drop, List.length_take]; rfl)) ?_; (with_reducible refine (strconv_Itoa.calls t147 t153 _ A11.out (Gl.of HG.out (by repeat (first | exact HB.out | apply below_alloc | apply pw_below_drewN | apply below_drew1)))).mono ?_); rintro e w18 ⟨rfl, hb⟩; refine ⟨_, rfl, ?_⟩; have n0_ := Aside0.mk (below_step (by repeat (first | (with_reducible first | exact HB.out | apply below_alloc | apply pw_below_drewN | apply below_drew1) | exact HB.out)) hb); clear HB; have HB := n0_; clear n0_; (try clear hb); (try clear hb2); (try clear hk); (try clear hi)) | ((with_reducible refine gate_callee (f := 68) rfl ?_); refine goesL_ (some 29) rfl rfl Tryd.func68 (by kernel_rfl) rfl #[.string t153, .int .i64 2] rfl (by (try simp only [List.map_toArray, List.map_cons, List.map_nil]); first | done | rfl | (simp only [List.length_drop, List.length_take]; rfl)) ?_; (with_reducible refine (num_pad.calls t153 2 t154 _ A12.out).mono ?_); rintro e w19 ⟨rfl, hb⟩; refine ⟨_, rfl, ?_⟩; have n0_ := Aside0.mk (below_step (by repeat (first | (with_reducible first | exact HB.out | apply below_alloc | apply pw_below_drewN | apply below_drew1) | exact HB.out)) hb); clear HB; have HB := n0_; clear n0_; (try clear hb); (try clear hb2); (try clear hk); (try clear hi)))
            go_ret2
            exact ⟨by first | rfl | (simp [errW_none, errW_some] <;> rfl) | (simp [*, errW_none, errW_some] <;> rfl), by repeat (first | (with_reducible first | exact HB.out | apply below_alloc | apply pw_below_drewN | apply below_drew1) | exact HB.out)⟩
          · rw [if_neg c13] at H
            exact absurd H (by simp)
        · rw [if_neg c10] at H
          exact absurd H (by simp)
      · rw [if_neg c9] at H
        exact absurd H (by simp)
    · rw [if_neg c6] at H
      exact absurd H (by simp)
  · rw [if_neg c3] at H
    have c3b0 : (t148 == 0) = false := beq_eq_false_iff_ne.mpr c3
    have c3b1 : (t148 != 0) = true := bne_iff_ne.mpr c3
    simp only [Option.some.injEq, Prod.mk.injEq] at H
    obtain ⟨rfl, rfl⟩ := H
    go_enter Tryd.func49, Tryd.ntmps49
    go_wp2_with (first | ((with_reducible refine gate_callee (f := 69) rfl ?_); refine goesL_ (some 10) rfl rfl Tryd.func69 (by kernel_rfl) rfl #[.int .i64 a0] rfl (by (try simp only [List.map_toArray, List.map_cons, List.map_nil]); first | done | rfl | (simp only [List.length_drop, List.length_take]; rfl)) ?_; (with_reducible refine (num_Civil.calls k a0 t145 t146 t147 t148 _ A2.out).mono ?_); rintro e w' ⟨rfl, ⟨nd, rfl⟩⟩; refine ⟨_, rfl, ?_⟩))
    go_ret2
    exact ⟨by first | rfl | (simp [errW_none, errW_some] <;> rfl) | (simp [*, errW_none, errW_some] <;> rfl), by repeat (first | (with_reducible first | exact HB.out | apply below_alloc | apply pw_below_drewN | apply below_drew1) | exact HB.out)⟩

end Go.Proofs.YtjpgjggbanpegaaDoor.C
