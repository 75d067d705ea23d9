/- PRINTED BY A PROGRAM OF THIS SESSION (px.py, over the kit's print): Lean functions with the answers of Go functions of the given program, and proofs that the Go code comes to these answers; each under the conditions that its theorem states. -/
import Derived.Test.YtjpgjggbanpegaaDoorK0
import Derived.Test.YtjpgjggbanpegaaDoorK4
import Derived.Test.YtjpgjggbanpegaaDoorK5
namespace Go.Proofs.YtjpgjggbanpegaaDoor.K
open Go.RowKit Go.Proofs.YtjpgjggbanpegaaDoorW.PrintWords Go.Proofs.YtjpgjggbanpegaaDoorW.PrintLast Go.Proofs.YtjpgjggbanpegaaDoorW.PrintMore
attribute [local go_sem] max2_int min2_int max_two min_two max_three min_three max_four min_four   -- for this text's walks alone
set_option linter.unusedVariables false
set_option linter.unusedSimpArgs false

/-! ### colonnaderef01_Civil: function 73 -/
mutual
def colonnaderef01_Civil.j0 : Nat → Int → Bool → Option (Int × Int × Int × Int)
  | 0, _, _ => none
  | k + 1, x0, x14 => if x14 = true then (some (0, 0, 0, 13)) else (colonnaderef01_Civil.l0 k (wrap64 (x0 + 719162)) (wrap64 ((wrap64 (Int.tdiv (wrap64 (x0 + 719162)) 366)) + 1)))
def colonnaderef01_Civil.l0 : Nat → Int → Int → Option (Int × Int × Int × Int)
  | 0, _, _ => none
  | k + 1, x0, x6 => (colonnaderef01_before.f (wrap64 (x6 + 1))).bind fun t224 => (if t224 ≤ x0 then (colonnaderef01_Civil.l0 k x0 (wrap64 (x6 + 1))) else ((colonnaderef01_before.f x6).bind fun t225 => (colonnaderef01_Civil.l1 k x6 (wrap64 (x0 - t225)) 1)))
def colonnaderef01_Civil.l1 : Nat → Int → Int → Int → Option (Int × Int × Int × Int)
  | 0, _, _, _ => none
  | k + 1, x6, x7, x8 => (colonnaderef01_length.f k x6 x8).bind fun t226 => (if x7 ≥ t226 then ((colonnaderef01_length.f k x6 x8).bind fun t227 => (colonnaderef01_Civil.l1 k x6 (wrap64 (x7 - t227)) (wrap64 (x8 + 1)))) else (some (x6, x8, wrap64 (x7 + 1), 0)))
end
def colonnaderef01_Civil.f (k : Nat) (a0 : Int) : Option (Int × Int × Int × Int) := if a0 < (-719162) then (colonnaderef01_Civil.j0 k a0 true) else (colonnaderef01_Civil.j0 k a0 (decide (a0 > 2932896)))
theorem colonnaderef01_Civil.mono_l : ∀ k, (∀ y0 y1, LeO (colonnaderef01_Civil.j0 k y0 y1) (colonnaderef01_Civil.j0 (k + 1) y0 y1)) ∧ (∀ y0 y1, LeO (colonnaderef01_Civil.l0 k y0 y1) (colonnaderef01_Civil.l0 (k + 1) y0 y1)) ∧ (∀ y0 y1 y2, LeO (colonnaderef01_Civil.l1 k y0 y1 y2) (colonnaderef01_Civil.l1 (k + 1) y0 y1 y2))
  | 0 => ⟨fun _ _ r h => by simp [colonnaderef01_Civil.j0] at h, fun _ _ r h => by simp [colonnaderef01_Civil.l0] at h, fun _ _ _ r h => by simp [colonnaderef01_Civil.l1] at h⟩
  | k + 1 => by
    obtain ⟨ih0, ih1, ih2⟩ := colonnaderef01_Civil.mono_l k
    refine ⟨?_, ?_, ?_⟩
    · intro y0 y1
      unfold colonnaderef01_Civil.j0
      repeat' first
      | (with_reducible exact ih0 _ _)
      | (with_reducible exact ih1 _ _)
      | (with_reducible exact ih2 _ _ _)
      | (with_reducible exact colonnaderef01_length.mono _ _ _)
      | (with_reducible exact LeO.refl _)
      | (with_reducible exact LeO.none _)
      | (with_reducible refine LeO.ite ?_ ?_)
      | (with_reducible refine LeO.bind ?_ (fun _ => ?_))
      | exact ih0 _ _
      | exact ih1 _ _
      | exact ih2 _ _ _
      | exact colonnaderef01_length.mono _ _ _
      | exact LeO.none _
      | refine LeO.ite ?_ ?_
      | refine LeO.bind ?_ (fun _ => ?_)
    · intro y0 y1
      unfold colonnaderef01_Civil.l0
      repeat' first
      | (with_reducible exact ih0 _ _)
      | (with_reducible exact ih1 _ _)
      | (with_reducible exact ih2 _ _ _)
      | (with_reducible exact colonnaderef01_length.mono _ _ _)
      | (with_reducible exact LeO.refl _)
      | (with_reducible exact LeO.none _)
      | (with_reducible refine LeO.ite ?_ ?_)
      | (with_reducible refine LeO.bind ?_ (fun _ => ?_))
      | exact ih0 _ _
      | exact ih1 _ _
      | exact ih2 _ _ _
      | exact colonnaderef01_length.mono _ _ _
      | exact LeO.none _
      | refine LeO.ite ?_ ?_
      | refine LeO.bind ?_ (fun _ => ?_)
    · intro y0 y1 y2
      unfold colonnaderef01_Civil.l1
      repeat' first
      | (with_reducible exact ih0 _ _)
      | (with_reducible exact ih1 _ _)
      | (with_reducible exact ih2 _ _ _)
      | (with_reducible exact colonnaderef01_length.mono _ _ _)
      | (with_reducible exact LeO.refl _)
      | (with_reducible exact LeO.none _)
      | (with_reducible refine LeO.ite ?_ ?_)
      | (with_reducible refine LeO.bind ?_ (fun _ => ?_))
      | exact ih0 _ _
      | exact ih1 _ _
      | exact ih2 _ _ _
      | exact colonnaderef01_length.mono _ _ _
      | exact LeO.none _
      | refine LeO.ite ?_ ?_
      | refine LeO.bind ?_ (fun _ => ?_)
theorem colonnaderef01_Civil.mono : ∀ a0 k, LeO (colonnaderef01_Civil.f k a0) (colonnaderef01_Civil.f (k + 1) a0) := by
  intro a0 k
  obtain ⟨ih0, ih1, ih2⟩ := colonnaderef01_Civil.mono_l k
  unfold colonnaderef01_Civil.f
  repeat' first
      | (with_reducible exact ih0 _ _)
      | (with_reducible exact ih1 _ _)
      | (with_reducible exact ih2 _ _ _)
      | (with_reducible exact colonnaderef01_length.mono _ _ _)
      | (with_reducible exact LeO.refl _)
      | (with_reducible exact LeO.none _)
      | (with_reducible refine LeO.ite ?_ ?_)
      | (with_reducible refine LeO.bind ?_ (fun _ => ?_))
      | exact ih0 _ _
      | exact ih1 _ _
      | exact ih2 _ _ _
      | exact colonnaderef01_length.mono _ _ _
      | exact LeO.none _
      | refine LeO.ite ?_ ?_
      | refine LeO.bind ?_ (fun _ => ?_)
set_option maxHeartbeats 8000000 in
set_option maxRecDepth 100000 in
theorem colonnaderef01_Civil.calls (k : Nat) (a0 : Int) (r1 : Int) (r2 : Int) (r3 : Int) (r4 : Int) (w : World) (h : colonnaderef01_Civil.f k a0 = some (r1, r2, r3, r4)) :
    Calls Tryd.prog 73 #[.int .i64 a0] w fun e w' => e = .returned (.tuple #[.int .i64 r1, .int .i64 r2, .int .i64 r3, .int .i64 r4]) ∧ Drawn0 w w' := by
  have H : (if a0 < (-719162) then (colonnaderef01_Civil.j0 k a0 true) else (colonnaderef01_Civil.j0 k a0 (decide (a0 > 2932896)))) = some (r1, r2, r3, r4) := h
  clear h
  have HC2 := Aside0.mk H
  clear H
  go_enter Tryd.func73, Tryd.ntmps73
  go_upto_region 1 with (fail)
  go_cut [14] (fun v14 wc => ∃ (kq : Nat) (x14_1 : Bool), v14 = .bool x14_1 ∧ Aside0 (colonnaderef01_Civil.j0 kq a0 x14_1 = some (r1, r2, r3, r4)) ∧ Aside0 (kq ≤ k) ∧ Drawn0 w wc)
  case first =>
    have H := HC2.out
    clear HC2
    by_cases c3 : a0 < (-719162)
    · rw [if_pos c3] at H
      have c3b0 : decide (a0 < (-719162)) = true := decide_eq_true c3
      clear c3
      (first | rw [c3b0] | (simp only [i64_w, i32_w]; rw [c3b0]) | skip)
      have H' := Aside0.mk H
      clear H
      go_wp2
      go_meet
      case rel => exact ⟨_, (true), (by first | rfl | (simp; done) | (simp [*]; done)), H', ⟨by first | omega | exact Nat.le_refl _⟩, by repeat (first | exact Drawn0.refl _ | apply Drawn0.step)⟩
    · rw [if_neg c3] at H
      have c3b0 : decide (a0 < (-719162)) = false := decide_eq_false c3
      clear c3
      (first | rw [c3b0] | (simp only [i64_w, i32_w]; rw [c3b0]) | skip)
      have H' := Aside0.mk H
      clear H
      go_wp2
      go_meet
      case rel => exact ⟨_, (decide (a0 > 2932896)), (by first | rfl | (simp; done) | (simp [*]; done)), H', ⟨by first | omega | exact Nat.le_refl _⟩, by repeat (first | exact Drawn0.refl _ | apply Drawn0.step)⟩
  case rest =>
    clear HC2
    try clear p2
    try clear c3
    try clear c3b0
    obtain ⟨kq, x14_1, rfl, HA, HJ1, ⟨mc1, rfl⟩⟩ := hcut
    cases kq with
    | zero => exact absurd HA.out (by simp [colonnaderef01_Civil.j0])
    | succ kj1 =>
      have H := HA.out
      clear HA
      simp only [colonnaderef01_Civil.j0] at H
      by_cases c4 : x14_1 = true
      · subst c4
        have H1 : (some (0, 0, 0, 13)) = some (r1, r2, r3, r4) := by rw [if_pos rfl] at H; exact H
        clear H
        have H := H1
        clear H1
        simp only [Option.some.injEq, Prod.mk.injEq] at H
        obtain ⟨rfl, rfl, rfl, rfl⟩ := H
        go_wp2
        refine bodyPost_ret (results_list (rs := [.tmp 2, .tmp 3, .tmp 4, .tmp 5]) rfl (by simp) (.tmp (.tmp (.tmp (.tmp .nil))))) rfl ?_
        exact ⟨by first | rfl | (simp; done) | (simp [*]; done), by repeat (first | exact Drawn0.refl _ | apply Drawn0.step)⟩
      · replace c4 := Bool.eq_false_iff.mpr c4
        subst c4
        have H1 : (colonnaderef01_Civil.l0 kj1 (wrap64 (a0 + 719162)) (wrap64 ((wrap64 (Int.tdiv (wrap64 (a0 + 719162)) 366)) + 1))) = some (r1, r2, r3, r4) := by rw [if_neg (show ¬ (false = true) by decide)] at H; exact H
        clear H
        have H := H1
        clear H1
        have H' := Aside0.mk H
        clear H
        go_wp2
        go_loopg [6] kj1 (fun kq v6 w' => ∃ (x6_2 : Int), v6 = .int .i64 x6_2 ∧ Aside0 (colonnaderef01_Civil.l0 kq (wrap64 (a0 + 719162)) x6_2 = some (r1, r2, r3, r4)) ∧ Aside0 (kq ≤ kj1) ∧ Drawn0 w w')
        case atStart => exact ⟨(wrap64 ((wrap64 (Int.tdiv (wrap64 (a0 + 719162)) 366)) + 1)), (by first | rfl | (simp; done) | (simp [*]; done)), H', ⟨Nat.le_refl _⟩, by repeat (first | exact Drawn0.refl _ | apply Drawn0.step)⟩
        case round =>
          clear H'
          try clear c1
          try clear p2
          try clear c3
          try clear c3b0
          try clear c4
          try clear p2
          obtain ⟨x6_2, rfl, HA, HK2, ⟨m2, rfl⟩⟩ := hrel
          cases gk with
          | zero => exact absurd HA.out (by simp [colonnaderef01_Civil.l0])
          | succ k2 =>
            have H := HA.out
            clear HA
            simp only [colonnaderef01_Civil.l0] at H
            replace H := Option.bind_eq_some_iff.mp H
            obtain ⟨t224, A50, H⟩ := H
            replace H : (if t224 ≤ (wrap64 (a0 + 719162)) then (colonnaderef01_Civil.l0 k2 (wrap64 (a0 + 719162)) (wrap64 (x6_2 + 1))) else ((colonnaderef01_before.f x6_2).bind fun t225 => (colonnaderef01_Civil.l1 k2 x6_2 (wrap64 ((wrap64 (a0 + 719162)) - t225)) 1))) = some (r1, r2, r3, r4) := H
            have A5 := Aside0.mk A50
            clear A50
            by_cases c6 : t224 ≤ (wrap64 (a0 + 719162))
            · rw [if_pos c6] at H
              have c6b0 : decide (t224 ≤ (wrap64 (a0 + 719162))) = true := decide_eq_true c6
              clear c6
              have H' := Aside0.mk H
              clear H
              go_wp2_with (first | ((with_reducible refine gate_callee (f := 87) rfl ?_); refine goesL_ (some 22) rfl rfl Tryd.func87 (by kernel_rfl) rfl #[.int .i64 (wrap64 (x6_2 + 1))] rfl (by (try simp only [List.map_toArray, List.map_cons, List.map_nil]); first | done | rfl | (simp only [List.length_drop, List.length_take]; rfl)) ?_; (with_reducible refine (colonnaderef01_before.calls (wrap64 (x6_2 + 1)) t224 _ A5.out).mono ?_); rintro e w' ⟨rfl, ⟨nd, rfl⟩⟩; refine ⟨_, rfl, ?_⟩))
              go_roundg k2
              case measure => have := HJ1.out; have := HK2.out; omega
              case rel => exact ⟨(wrap64 (x6_2 + 1)), (by first | rfl | (simp; done) | (simp [*]; done)), H', ⟨by have := HJ1.out; have := HK2.out; omega⟩, by repeat (first | exact Drawn0.refl _ | apply Drawn0.step)⟩
            · rw [if_neg c6] at H
              have c6b0 : decide (t224 ≤ (wrap64 (a0 + 719162))) = false := decide_eq_false c6
              clear c6
              replace H := Option.bind_eq_some_iff.mp H
              obtain ⟨t225, A70, H⟩ := H
              replace H : (colonnaderef01_Civil.l1 k2 x6_2 (wrap64 ((wrap64 (a0 + 719162)) - t225)) 1) = some (r1, r2, r3, r4) := H
              have A7 := Aside0.mk A70
              clear A70
              have H' := Aside0.mk H
              clear H
              go_wp2_with (first | ((with_reducible refine gate_callee (f := 87) rfl ?_); refine goesL_ (some 22) rfl rfl Tryd.func87 (by kernel_rfl) rfl #[.int .i64 (wrap64 (x6_2 + 1))] rfl (by (try simp only [List.map_toArray, List.map_cons, List.map_nil]); first | done | rfl | (simp only [List.length_drop, List.length_take]; rfl)) ?_; (with_reducible refine (colonnaderef01_before.calls (wrap64 (x6_2 + 1)) t224 _ A5.out).mono ?_); rintro e w' ⟨rfl, ⟨nd, rfl⟩⟩; refine ⟨_, rfl, ?_⟩) | ((with_reducible refine gate_callee (f := 87) rfl ?_); refine goesL_ (some 29) rfl rfl Tryd.func87 (by kernel_rfl) rfl #[.int .i64 x6_2] rfl (by (try simp only [List.map_toArray, List.map_cons, List.map_nil]); first | done | rfl | (simp only [List.length_drop, List.length_take]; rfl)) ?_; (with_reducible refine (colonnaderef01_before.calls x6_2 t225 _ A7.out).mono ?_); rintro e w' ⟨rfl, ⟨nd, rfl⟩⟩; refine ⟨_, rfl, ?_⟩))
              go_loopg [7, 8] k2 (fun kq v7 v8 w' => ∃ (x7_3 : Int) (x8_3 : Int), v7 = .int .i64 x7_3 ∧ v8 = .int .i64 x8_3 ∧ Aside0 (colonnaderef01_Civil.l1 kq x6_2 x7_3 x8_3 = some (r1, r2, r3, r4)) ∧ Aside0 (kq ≤ k2) ∧ Drawn0 w w')
              case atStart => exact ⟨(wrap64 ((wrap64 (a0 + 719162)) - t225)), (1), (by first | rfl | (simp; done) | (simp [*]; done)), (by first | rfl | (simp; done) | (simp [*]; done)), H', ⟨Nat.le_refl _⟩, by repeat (first | exact Drawn0.refl _ | apply Drawn0.step)⟩
              case round =>
                clear H'
                try clear c1
                try clear p2
                try clear c3
                try clear c3b0
                try clear c4
                try clear c6
                try clear c6b0
                try clear p6
                try clear c7
                try clear p2
                obtain ⟨x7_3, x8_3, rfl, rfl, HA, HK3, ⟨m3, rfl⟩⟩ := hrel
                cases gk with
                | zero => exact absurd HA.out (by simp [colonnaderef01_Civil.l1])
                | succ k3 =>
                  have H := HA.out
                  clear HA
                  simp only [colonnaderef01_Civil.l1] at H
                  replace H := Option.bind_eq_some_iff.mp H
                  obtain ⟨t226, A80, H⟩ := H
                  replace H : (if x7_3 ≥ t226 then ((colonnaderef01_length.f k3 x6_2 x8_3).bind fun t227 => (colonnaderef01_Civil.l1 k3 x6_2 (wrap64 (x7_3 - t227)) (wrap64 (x8_3 + 1)))) else (some (x6_2, x8_3, wrap64 (x7_3 + 1), 0))) = some (r1, r2, r3, r4) := H
                  have A8 := Aside0.mk A80
                  clear A80
                  by_cases c9 : x7_3 ≥ t226
                  · rw [if_pos c9] at H
                    have c9b0 : decide (t226 ≤ x7_3) = true := decide_eq_true c9
                    clear c9
                    replace H := Option.bind_eq_some_iff.mp H
                    obtain ⟨t227, A100, H⟩ := H
                    replace H : (colonnaderef01_Civil.l1 k3 x6_2 (wrap64 (x7_3 - t227)) (wrap64 (x8_3 + 1))) = some (r1, r2, r3, r4) := H
                    have A10 := Aside0.mk A100
                    clear A100
                    have H' := Aside0.mk H
                    clear H
                    go_wp2_with (first | ((with_reducible refine gate_callee (f := 88) rfl ?_); refine goesL_ (some 34) rfl rfl Tryd.func88 (by kernel_rfl) rfl #[.int .i64 x6_2, .int .i64 x8_3] rfl (by (try simp only [List.map_toArray, List.map_cons, List.map_nil]); first | done | rfl | (simp only [List.length_drop, List.length_take]; rfl)) ?_; (with_reducible refine (colonnaderef01_length.calls k3 x6_2 x8_3 t226 _ A8.out).mono ?_); rintro e w' ⟨rfl, ⟨nd, rfl⟩⟩; refine ⟨_, rfl, ?_⟩) | ((with_reducible refine gate_callee (f := 88) rfl ?_); refine goesL_ (some 39) rfl rfl Tryd.func88 (by kernel_rfl) rfl #[.int .i64 x6_2, .int .i64 x8_3] rfl (by (try simp only [List.map_toArray, List.map_cons, List.map_nil]); first | done | rfl | (simp only [List.length_drop, List.length_take]; rfl)) ?_; (with_reducible refine (colonnaderef01_length.calls k3 x6_2 x8_3 t227 _ A10.out).mono ?_); rintro e w' ⟨rfl, ⟨nd, rfl⟩⟩; refine ⟨_, rfl, ?_⟩))
                    go_roundg k3
                    case measure => have := HJ1.out; have := HK2.out; have := HK3.out; omega
                    case rel => exact ⟨(wrap64 (x7_3 - t227)), (wrap64 (x8_3 + 1)), (by first | rfl | (simp; done) | (simp [*]; done)), (by first | rfl | (simp; done) | (simp [*]; done)), H', ⟨by have := HJ1.out; have := HK2.out; have := HK3.out; omega⟩, by repeat (first | exact Drawn0.refl _ | apply Drawn0.step)⟩
                  · rw [if_neg c9] at H
                    have c9b0 : decide (t226 ≤ x7_3) = false := decide_eq_false c9
                    clear c9
                    simp only [Option.some.injEq, Prod.mk.injEq] at H
                    obtain ⟨rfl, rfl, rfl, rfl⟩ := H
                    go_wp2_with (first | ((with_reducible refine gate_callee (f := 88) rfl ?_); refine goesL_ (some 34) rfl rfl Tryd.func88 (by kernel_rfl) rfl #[.int .i64 x6_2, .int .i64 x8_3] rfl (by (try simp only [List.map_toArray, List.map_cons, List.map_nil]); first | done | rfl | (simp only [List.length_drop, List.length_take]; rfl)) ?_; (with_reducible refine (colonnaderef01_length.calls k3 x6_2 x8_3 t226 _ A8.out).mono ?_); rintro e w' ⟨rfl, ⟨nd, rfl⟩⟩; refine ⟨_, rfl, ?_⟩))
                    refine bodyPost_ret (results_list (rs := [.tmp 2, .tmp 3, .tmp 4, .tmp 5]) rfl (by simp) (.tmp (.tmp (.tmp (.tmp .nil))))) rfl ?_
                    exact ⟨by first | rfl | (simp; done) | (simp [*]; done), by repeat (first | exact Drawn0.refl _ | apply Drawn0.step)⟩

/-! ### colonnaderef01_FormatDay: function 52 -/
def colonnaderef01_FormatDay.f (k : Nat) (a0 : Int) : Option (ByteArray × Int) := (colonnaderef01_Civil.f k a0).bind fun bt228 => (if bt228.2.2.2 = 0 then ((colonnaderef01_plain.f k (IntKind.u64.wrap (bt228.1)) 4).bind fun t232 => (if t232.size + 1 ≤ 9223372036854775807 then ((colonnaderef01_plain.f k (IntKind.u64.wrap (bt228.2.1)) 2).bind fun t233 => (if (t232 ++ (⟨#[45]⟩ : ByteArray)).size + t233.size ≤ 9223372036854775807 then (if ((t232 ++ (⟨#[45]⟩ : ByteArray)) ++ t233).size + 1 ≤ 9223372036854775807 then ((colonnaderef01_plain.f k (IntKind.u64.wrap (bt228.2.2.1)) 2).bind fun t234 => (if (((t232 ++ (⟨#[45]⟩ : ByteArray)) ++ t233) ++ (⟨#[45]⟩ : ByteArray)).size + t234.size ≤ 9223372036854775807 then (some ((((t232 ++ (⟨#[45]⟩ : ByteArray)) ++ t233) ++ (⟨#[45]⟩ : ByteArray)) ++ t234, 0)) else (none))) else (none)) else (none))) else (none))) else (some ((⟨#[]⟩ : ByteArray), bt228.2.2.2)))
theorem colonnaderef01_FormatDay.mono : ∀ a0 k, LeO (colonnaderef01_FormatDay.f k a0) (colonnaderef01_FormatDay.f (k + 1) a0) := by
  intro a0 k
  unfold colonnaderef01_FormatDay.f
  repeat' first
      | (with_reducible exact colonnaderef01_Civil.mono _ _)
      | (with_reducible exact colonnaderef01_plain.mono _ _ _)
      | (with_reducible exact LeO.refl _)
      | (with_reducible exact LeO.none _)
      | (with_reducible refine LeO.ite ?_ ?_)
      | (with_reducible refine LeO.bind ?_ (fun _ => ?_))
      | exact colonnaderef01_Civil.mono _ _
      | exact colonnaderef01_plain.mono _ _ _
      | exact LeO.none _
      | refine LeO.ite ?_ ?_
      | refine LeO.bind ?_ (fun _ => ?_)
set_option maxHeartbeats 8000000 in
set_option maxRecDepth 100000 in
theorem colonnaderef01_FormatDay.calls (k : Nat) (a0 : Int) (r1 : ByteArray) (r2 : Int) (w : World) (h : colonnaderef01_FormatDay.f k a0 = some (r1, r2)) :
    Calls Tryd.prog 52 #[.int .i64 a0] w fun e w' => e = .returned (.tuple #[.string r1, .int .i64 r2]) ∧ Below w.heap.size w w' := by
  have HB := Aside0.mk (Below.refl w.heap.size w)
  have H : ((colonnaderef01_Civil.f k a0).bind fun bt228 => (if bt228.2.2.2 = 0 then ((colonnaderef01_plain.f k (IntKind.u64.wrap (bt228.1)) 4).bind fun t232 => (if t232.size + 1 ≤ 9223372036854775807 then ((colonnaderef01_plain.f k (IntKind.u64.wrap (bt228.2.1)) 2).bind fun t233 => (if (t232 ++ (⟨#[45]⟩ : ByteArray)).size + t233.size ≤ 9223372036854775807 then (if ((t232 ++ (⟨#[45]⟩ : ByteArray)) ++ t233).size + 1 ≤ 9223372036854775807 then ((colonnaderef01_plain.f k (IntKind.u64.wrap (bt228.2.2.1)) 2).bind fun t234 => (if (((t232 ++ (⟨#[45]⟩ : ByteArray)) ++ t233) ++ (⟨#[45]⟩ : ByteArray)).size + t234.size ≤ 9223372036854775807 then (some ((((t232 ++ (⟨#[45]⟩ : ByteArray)) ++ t233) ++ (⟨#[45]⟩ : ByteArray)) ++ t234, 0)) else (none))) else (none)) else (none))) else (none))) else (some ((⟨#[]⟩ : ByteArray), bt228.2.2.2)))) = some (r1, r2) := h
  clear h
  replace H := Option.bind_eq_some_iff.mp H
  obtain ⟨⟨t228, t229, t230, t231⟩, A20, H⟩ := H
  replace H : (if t231 = 0 then ((colonnaderef01_plain.f k (IntKind.u64.wrap (t228)) 4).bind fun t232 => (if t232.size + 1 ≤ 9223372036854775807 then ((colonnaderef01_plain.f k (IntKind.u64.wrap (t229)) 2).bind fun t233 => (if (t232 ++ (⟨#[45]⟩ : ByteArray)).size + t233.size ≤ 9223372036854775807 then (if ((t232 ++ (⟨#[45]⟩ : ByteArray)) ++ t233).size + 1 ≤ 9223372036854775807 then ((colonnaderef01_plain.f k (IntKind.u64.wrap (t230)) 2).bind fun t234 => (if (((t232 ++ (⟨#[45]⟩ : ByteArray)) ++ t233) ++ (⟨#[45]⟩ : ByteArray)).size + t234.size ≤ 9223372036854775807 then (some ((((t232 ++ (⟨#[45]⟩ : ByteArray)) ++ t233) ++ (⟨#[45]⟩ : ByteArray)) ++ t234, 0)) else (none))) else (none)) else (none))) else (none))) else (some ((⟨#[]⟩ : ByteArray), t231))) = some (r1, r2) := H
  have A2 := Aside0.mk A20
  clear A20
  by_cases c3 : t231 = 0
  · rw [if_pos c3] at H
    have c3b0 : (t231 == 0) = true := beq_iff_eq.mpr c3
    have c3b1 : (t231 != 0) = false := bne_eq_false_iff_eq.mpr c3
    clear c3
    replace H := Option.bind_eq_some_iff.mp H
    obtain ⟨t232, A40, H⟩ := H
    replace H : (if t232.size + 1 ≤ 9223372036854775807 then ((colonnaderef01_plain.f k (IntKind.u64.wrap (t229)) 2).bind fun t233 => (if (t232 ++ (⟨#[45]⟩ : ByteArray)).size + t233.size ≤ 9223372036854775807 then (if ((t232 ++ (⟨#[45]⟩ : ByteArray)) ++ t233).size + 1 ≤ 9223372036854775807 then ((colonnaderef01_plain.f k (IntKind.u64.wrap (t230)) 2).bind fun t234 => (if (((t232 ++ (⟨#[45]⟩ : ByteArray)) ++ t233) ++ (⟨#[45]⟩ : ByteArray)).size + t234.size ≤ 9223372036854775807 then (some ((((t232 ++ (⟨#[45]⟩ : ByteArray)) ++ t233) ++ (⟨#[45]⟩ : ByteArray)) ++ t234, 0)) else (none))) else (none)) else (none))) else (none)) = some (r1, r2) := H
    have A4 := Aside0.mk A40
    clear A40
    by_cases c5 : t232.size + 1 ≤ 9223372036854775807
    · rw [if_pos c5] at H
      have c5b0 := eq_true c5
      (try (have c5n := c5; simp [size_lit] at c5n))
      (try (have c5m := eq_false (Nat.not_lt.2 c5); simp only [ByteArray.size_append, size_lit, List.length_cons, List.length_nil, Nat.reduceAdd, Nat.zero_add] at c5m))
      have c5b1 : decide (t232.size + 1 ≤ 9223372036854775807) = true := decide_eq_true c5
      try have c5b2 : (9223372036854775807 < t232.size + 1) = False := eq_false (Nat.not_lt.2 c5)
      replace H := Option.bind_eq_some_iff.mp H
      obtain ⟨t233, A60, H⟩ := H
      replace H : (if (t232 ++ (⟨#[45]⟩ : ByteArray)).size + t233.size ≤ 9223372036854775807 then (if ((t232 ++ (⟨#[45]⟩ : ByteArray)) ++ t233).size + 1 ≤ 9223372036854775807 then ((colonnaderef01_plain.f k (IntKind.u64.wrap (t230)) 2).bind fun t234 => (if (((t232 ++ (⟨#[45]⟩ : ByteArray)) ++ t233) ++ (⟨#[45]⟩ : ByteArray)).size + t234.size ≤ 9223372036854775807 then (some ((((t232 ++ (⟨#[45]⟩ : ByteArray)) ++ t233) ++ (⟨#[45]⟩ : ByteArray)) ++ t234, 0)) else (none))) else (none)) else (none)) = some (r1, r2) := H
      have A6 := Aside0.mk A60
      clear A60
      by_cases c7 : (t232 ++ (⟨#[45]⟩ : ByteArray)).size + t233.size ≤ 9223372036854775807
      · rw [if_pos c7] at H
        have c7b0 := eq_true c7
        (try (have c7n := c7; simp [size_lit] at c7n))
        (try (have c7m := eq_false (Nat.not_lt.2 c7); simp only [ByteArray.size_append, size_lit, List.length_cons, List.length_nil, Nat.reduceAdd, Nat.zero_add] at c7m))
        have c7b1 : decide ((t232 ++ (⟨#[45]⟩ : ByteArray)).size + t233.size ≤ 9223372036854775807) = true := decide_eq_true c7
        try have c7b2 : (9223372036854775807 < (t232 ++ (⟨#[45]⟩ : ByteArray)).size + t233.size) = False := eq_false (Nat.not_lt.2 c7)
        by_cases c8 : ((t232 ++ (⟨#[45]⟩ : ByteArray)) ++ t233).size + 1 ≤ 9223372036854775807
        · rw [if_pos c8] at H
          have c8b0 := eq_true c8
          (try (have c8n := c8; simp [size_lit] at c8n))
          (try (have c8m := eq_false (Nat.not_lt.2 c8); simp only [ByteArray.size_append, size_lit, List.length_cons, List.length_nil, Nat.reduceAdd, Nat.zero_add] at c8m))
          have c8b1 : decide (((t232 ++ (⟨#[45]⟩ : ByteArray)) ++ t233).size + 1 ≤ 9223372036854775807) = true := decide_eq_true c8
          try have c8b2 : (9223372036854775807 < ((t232 ++ (⟨#[45]⟩ : ByteArray)) ++ t233).size + 1) = False := eq_false (Nat.not_lt.2 c8)
          replace H := Option.bind_eq_some_iff.mp H
          obtain ⟨t234, A90, H⟩ := H
          replace H : (if (((t232 ++ (⟨#[45]⟩ : ByteArray)) ++ t233) ++ (⟨#[45]⟩ : ByteArray)).size + t234.size ≤ 9223372036854775807 then (some ((((t232 ++ (⟨#[45]⟩ : ByteArray)) ++ t233) ++ (⟨#[45]⟩ : ByteArray)) ++ t234, 0)) else (none)) = some (r1, r2) := H
          have A9 := Aside0.mk A90
          clear A90
          by_cases c10 : (((t232 ++ (⟨#[45]⟩ : ByteArray)) ++ t233) ++ (⟨#[45]⟩ : ByteArray)).size + t234.size ≤ 9223372036854775807
          · rw [if_pos c10] at H
            have c10b0 := eq_true c10
            (try (have c10n := c10; simp [size_lit] at c10n))
            (try (have c10m := eq_false (Nat.not_lt.2 c10); simp only [ByteArray.size_append, size_lit, List.length_cons, List.length_nil, Nat.reduceAdd, Nat.zero_add] at c10m))
            have c10b1 : decide ((((t232 ++ (⟨#[45]⟩ : ByteArray)) ++ t233) ++ (⟨#[45]⟩ : ByteArray)).size + t234.size ≤ 9223372036854775807) = true := decide_eq_true c10
            try have c10b2 : (9223372036854775807 < (((t232 ++ (⟨#[45]⟩ : ByteArray)) ++ t233) ++ (⟨#[45]⟩ : ByteArray)).size + t234.size) = False := eq_false (Nat.not_lt.2 c10)
            simp only [Option.some.injEq, Prod.mk.injEq] at H
            obtain ⟨rfl, rfl⟩ := H
            go_enter Tryd.func52, Tryd.ntmps52
            go_wp2_with (first | ((with_reducible refine gate_callee (f := 73) rfl ?_); refine goesL_ (some 10) rfl rfl Tryd.func73 (by kernel_rfl) rfl #[.int .i64 a0] rfl (by (try simp only [List.map_toArray, List.map_cons, List.map_nil]); first | done | rfl | (simp only [List.length_drop, List.length_take]; rfl)) ?_; (with_reducible refine (colonnaderef01_Civil.calls k a0 t228 t229 t230 t231 _ A2.out).mono ?_); rintro e w' ⟨rfl, ⟨nd, rfl⟩⟩; refine ⟨_, rfl, ?_⟩) | ((with_reducible refine gate_callee (f := 71) rfl ?_); refine goesL_ (some 20) rfl rfl Tryd.func71 (by kernel_rfl) rfl #[.int .u64 (IntKind.u64.wrap (t228)), .int .i64 4] rfl (by (try simp only [List.map_toArray, List.map_cons, List.map_nil]); first | done | rfl | (simp only [List.length_drop, List.length_take]; rfl)) ?_; (with_reducible refine (colonnaderef01_plain.calls k (IntKind.u64.wrap (t228)) 4 t232 _ A4.out).mono ?_); rintro e w11 ⟨rfl, hb⟩; refine ⟨_, rfl, ?_⟩; have n0_ := Aside0.mk (below_step (by repeat (first | (with_reducible first | exact HB.out | apply below_alloc | apply pw_below_drewN | apply below_drew1) | exact HB.out)) hb); clear HB; have HB := n0_; clear n0_; (try clear hb); (try clear hb2); (try clear hk); (try clear hi)) | ((with_reducible refine gate_callee (f := 71) rfl ?_); refine goesL_ (some 24) rfl rfl Tryd.func71 (by kernel_rfl) rfl #[.int .u64 (IntKind.u64.wrap (t229)), .int .i64 2] rfl (by (try simp only [List.map_toArray, List.map_cons, List.map_nil]); first | done | rfl | (simp only [List.length_drop, List.length_take]; rfl)) ?_; (with_reducible refine (colonnaderef01_plain.calls k (IntKind.u64.wrap (t229)) 2 t233 _ A6.out).mono ?_); rintro e w12 ⟨rfl, hb⟩; refine ⟨_, rfl, ?_⟩; have n0_ := Aside0.mk (below_step (by repeat (first | (with_reducible first | exact HB.out | apply below_alloc | apply pw_below_drewN | apply below_drew1) | exact HB.out)) hb); clear HB; have HB := n0_; clear n0_; (try clear hb); (try clear hb2); (try clear hk); (try clear hi)) | ((with_reducible refine gate_callee (f := 71) rfl ?_); refine goesL_ (some 29) rfl rfl Tryd.func71 (by kernel_rfl) rfl #[.int .u64 (IntKind.u64.wrap (t230)), .int .i64 2] rfl (by (try simp only [List.map_toArray, List.map_cons, List.map_nil]); first | done | rfl | (simp only [List.length_drop, List.length_take]; rfl)) ?_; (with_reducible refine (colonnaderef01_plain.calls k (IntKind.u64.wrap (t230)) 2 t234 _ A9.out).mono ?_); rintro e w13 ⟨rfl, hb⟩; refine ⟨_, rfl, ?_⟩; have n0_ := Aside0.mk (below_step (by repeat (first | (with_reducible first | exact HB.out | apply below_alloc | apply pw_below_drewN | apply below_drew1) | exact HB.out)) hb); clear HB; have HB := n0_; clear n0_; (try clear hb); (try clear hb2); (try clear hk); (try clear hi)))
            go_ret2
            exact ⟨by first | rfl | (simp [errW_none, errW_some] <;> rfl) | (simp [*, errW_none, errW_some] <;> rfl), by repeat (first | (with_reducible first | exact HB.out | apply below_alloc | apply pw_below_drewN | apply below_drew1) | exact HB.out)⟩
          · rw [if_neg c10] at H
            exact absurd H (by simp)
        · rw [if_neg c8] at H
          exact absurd H (by simp)
      · rw [if_neg c7] at H
        exact absurd H (by simp)
    · rw [if_neg c5] at H
      exact absurd H (by simp)
  · rw [if_neg c3] at H
    have c3b0 : (t231 == 0) = false := beq_eq_false_iff_ne.mpr c3
    have c3b1 : (t231 != 0) = true := bne_iff_ne.mpr c3
    simp only [Option.some.injEq, Prod.mk.injEq] at H
    obtain ⟨rfl, rfl⟩ := H
    go_enter Tryd.func52, Tryd.ntmps52
    go_wp2_with (first | ((with_reducible refine gate_callee (f := 73) rfl ?_); refine goesL_ (some 10) rfl rfl Tryd.func73 (by kernel_rfl) rfl #[.int .i64 a0] rfl (by (try simp only [List.map_toArray, List.map_cons, List.map_nil]); first | done | rfl | (simp only [List.length_drop, List.length_take]; rfl)) ?_; (with_reducible refine (colonnaderef01_Civil.calls k a0 t228 t229 t230 t231 _ A2.out).mono ?_); rintro e w' ⟨rfl, ⟨nd, rfl⟩⟩; refine ⟨_, rfl, ?_⟩))
    go_ret2
    exact ⟨by first | rfl | (simp [errW_none, errW_some] <;> rfl) | (simp [*, errW_none, errW_some] <;> rfl), by repeat (first | (with_reducible first | exact HB.out | apply below_alloc | apply pw_below_drewN | apply below_drew1) | exact HB.out)⟩

/-! ### colonnaderef02_Show: function 13 -/
def colonnaderef02_Show.l0 : Nat → List Int → Int → Int → Int → Bool → Int → ByteArray → Option (ByteArray)
  | 0, _, _, _, _, _, _, _ => none
  | k + 1, x6, x7, x236000, x236001, x236002, x236003, x236004 => if x7 < (x236004.size : Int) then (if 0 ≤ x7 then (if (bt x236004 x7) = 39 then (if x6.length < 140737488355328 then ((some (x6 ++ [39] : List Int)).bind fun y242 => (if y242.length < 140737488355328 then (colonnaderef02_Show.l0 k (y242 ++ [bt x236004 x7]) (wrap64 (x7 + 1)) x236000 x236001 x236002 x236003 x236004) else (none))) else (none)) else (if x6.length < 140737488355328 then (colonnaderef02_Show.l0 k (x6 ++ [bt x236004 x7]) (wrap64 (x7 + 1)) x236000 x236001 x236002 x236003 x236004) else (none))) else (none)) else (if x6.length < 140737488355328 then (some (strOfNums (x6 ++ [39]))) else (none))
def colonnaderef02_Show.f (k : Nat) (a0_0 : Int) (a0_1 : Int) (a0_2 : Bool) (a0_3 : Int) (a0_4 : ByteArray) : Option (ByteArray) := if a0_2 = true then (some (⟨#[78, 85, 76, 76]⟩ : ByteArray)) else ((colonnaderef01_FormatInt.f k a0_3).bind fun t236 => (if a0_0 = 1 then (if a0_3 = 0 then (some (⟨#[70, 65, 76, 83, 69]⟩ : ByteArray)) else (some (⟨#[84, 82, 85, 69]⟩ : ByteArray))) else (if a0_0 = 2 then (some t236) else (if a0_0 = 3 then ((colonnaderef01_FormatDec.f k a0_3 a0_1).bind fun bt237 => (if bt237.2 = 0 then (some bt237.1) else (some t236))) else (if a0_0 = 4 then (colonnaderef02_Show.l0 k (([39] : List Int)) 0 a0_0 a0_1 a0_2 a0_3 a0_4) else (if a0_0 = 5 then ((colonnaderef01_FormatDay.f k a0_3).bind fun bt254 => (if bt254.2 = 0 then (some bt254.1) else (some t236))) else (some (⟨#[63]⟩ : ByteArray))))))))
theorem colonnaderef02_Show.mono_l : ∀ k, (∀ y0 y1 y2 y3 y4 y5 y6, LeO (colonnaderef02_Show.l0 k y0 y1 y2 y3 y4 y5 y6) (colonnaderef02_Show.l0 (k + 1) y0 y1 y2 y3 y4 y5 y6))
  | 0 => fun _ _ _ _ _ _ _ r h => by simp [colonnaderef02_Show.l0] at h
  | k + 1 => by
    have ih0 := colonnaderef02_Show.mono_l k
    · intro y0 y1 y2 y3 y4 y5 y6
      unfold colonnaderef02_Show.l0
      repeat' first
      | (with_reducible exact ih0 _ _ _ _ _ _ _)
      | (with_reducible exact colonnaderef01_FormatDay.mono _ _)
      | (with_reducible exact colonnaderef01_FormatDec.mono _ _ _)
      | (with_reducible exact colonnaderef01_FormatInt.mono _ _)
      | (with_reducible exact LeO.refl _)
      | (with_reducible exact LeO.none _)
      | (with_reducible refine LeO.ite ?_ ?_)
      | (with_reducible refine LeO.bind ?_ (fun _ => ?_))
      | exact ih0 _ _ _ _ _ _ _
      | exact colonnaderef01_FormatDay.mono _ _
      | exact colonnaderef01_FormatDec.mono _ _ _
      | exact colonnaderef01_FormatInt.mono _ _
      | exact LeO.none _
      | refine LeO.ite ?_ ?_
      | refine LeO.bind ?_ (fun _ => ?_)
theorem colonnaderef02_Show.mono : ∀ a0 a1 a2 a3 a4 k, LeO (colonnaderef02_Show.f k a0 a1 a2 a3 a4) (colonnaderef02_Show.f (k + 1) a0 a1 a2 a3 a4) := by
  intro a0 a1 a2 a3 a4 k
  have ih0 := colonnaderef02_Show.mono_l k
  unfold colonnaderef02_Show.f
  repeat' first
      | (with_reducible exact ih0 _ _ _ _ _ _ _)
      | (with_reducible exact colonnaderef01_FormatDay.mono _ _)
      | (with_reducible exact colonnaderef01_FormatDec.mono _ _ _)
      | (with_reducible exact colonnaderef01_FormatInt.mono _ _)
      | (with_reducible exact LeO.refl _)
      | (with_reducible exact LeO.none _)
      | (with_reducible refine LeO.ite ?_ ?_)
      | (with_reducible refine LeO.bind ?_ (fun _ => ?_))
      | exact ih0 _ _ _ _ _ _ _
      | exact colonnaderef01_FormatDay.mono _ _
      | exact colonnaderef01_FormatDec.mono _ _ _
      | exact colonnaderef01_FormatInt.mono _ _
      | exact LeO.none _
      | refine LeO.ite ?_ ?_
      | refine LeO.bind ?_ (fun _ => ?_)
set_option maxHeartbeats 8000000 in
set_option maxRecDepth 100000 in
theorem colonnaderef02_Show.calls (k : Nat) (a0_0 : Int) (a0_1 : Int) (a0_2 : Bool) (a0_3 : Int) (a0_4 : ByteArray) (r : ByteArray) (w : World) (h : colonnaderef02_Show.f k a0_0 a0_1 a0_2 a0_3 a0_4 = some r) :
    Calls Tryd.prog 13 #[.agg #[.int .i64 a0_0, .int .i64 a0_1, .bool a0_2, .int .i64 a0_3, .string a0_4]] w fun e w' => e = .returned (.string r) ∧ Below w.heap.size w w' := by
  have hu25 := Tryd.underlying25
  have HB := Aside0.mk (Below.refl w.heap.size w)
  have H : (if a0_2 = true then (some (⟨#[78, 85, 76, 76]⟩ : ByteArray)) else ((colonnaderef01_FormatInt.f k a0_3).bind fun t236 => (if a0_0 = 1 then (if a0_3 = 0 then (some (⟨#[70, 65, 76, 83, 69]⟩ : ByteArray)) else (some (⟨#[84, 82, 85, 69]⟩ : ByteArray))) else (if a0_0 = 2 then (some t236) else (if a0_0 = 3 then ((colonnaderef01_FormatDec.f k a0_3 a0_1).bind fun bt237 => (if bt237.2 = 0 then (some bt237.1) else (some t236))) else (if a0_0 = 4 then (colonnaderef02_Show.l0 k (([39] : List Int)) 0 a0_0 a0_1 a0_2 a0_3 a0_4) else (if a0_0 = 5 then ((colonnaderef01_FormatDay.f k a0_3).bind fun bt254 => (if bt254.2 = 0 then (some bt254.1) else (some t236))) else (some (⟨#[63]⟩ : ByteArray))))))))) = some r := h
  clear h
  by_cases c2 : a0_2 = true
  · subst c2
    have H1 : (some (⟨#[78, 85, 76, 76]⟩ : ByteArray)) = some r := by rw [if_pos rfl] at H; exact H
    clear H
    have H := H1
    clear H1
    obtain rfl := Option.some.inj H
    go_enter Tryd.func13, Tryd.ntmps13
    go_wp2_with (first | ((with_reducible refine gate_dst (N := 1) rfl ?_); refine box_event ?hg (N := 1) ?hd (cs := #[.int .i64 a0_0, .int .i64 a0_1, .bool true, .int .i64 a0_3, .string a0_4]) (t := 25) ?hr ?_; (case hd => rfl); (case hg => rfl); (case hr => first | (go_simp; done) | (go_simp; rfl)); intro gb235 hg w3 hbox hb; have n0_ := Aside0.mk (below_step (by repeat (first | (with_reducible first | exact HB.out | apply below_alloc | apply pw_below_drewN | apply below_drew1) | exact HB.out)) hb); have n1_ := Aside0.mk (hbox); have n2_ := Aside0.mk ((by rw [hg]; exact (below_size (by repeat (first | (with_reducible first | exact HB.out | apply below_alloc | apply pw_below_drewN | apply below_drew1) | exact HB.out))) : w.heap.size ≤ gb235)); have n3_ := Aside0.mk ((by rw [hg]; exact (below_size (by repeat (first | (with_reducible first | exact HB.out | apply below_alloc | apply pw_below_drewN | apply below_drew1) | exact HB.out))) : w.heap.size ≤ gb235)); clear HB; have HB := n0_; have BK235 := n1_; have GW235 := n2_; have GE235 := n3_; clear n0_ n1_ n2_ n3_; clear hb hbox hg; have hcz4_0 : w3.cell? ⟨gb235, 0, none⟩ = some (.int .i64 a0_0) := (blk_cell BK235.out 0).trans rfl; have hcz4_1 : w3.cell? ⟨gb235, 1, none⟩ = some (.int .i64 a0_1) := (blk_cell BK235.out 1).trans rfl; have hcz4_2 : w3.cell? ⟨gb235, 2, none⟩ = some (.bool true) := (blk_cell BK235.out 2).trans rfl; have hcz4_3 : w3.cell? ⟨gb235, 3, none⟩ = some (.int .i64 a0_3) := (blk_cell BK235.out 3).trans rfl; have hcz4_4 : w3.cell? ⟨gb235, 4, none⟩ = some (.string a0_4) := (blk_cell BK235.out 4).trans rfl; have hfz4_0 := blk_frozen BK235.out 0; have hfz4_1 := blk_frozen BK235.out 1; have hfz4_2 := blk_frozen BK235.out 2; have hfz4_3 := blk_frozen BK235.out 3; have hfz4_4 := blk_frozen BK235.out 4))
    go_ret
    exact ⟨by first | rfl | (simp [errW_none, errW_some] <;> rfl) | (simp [*, errW_none, errW_some] <;> rfl), by repeat (first | (with_reducible first | exact HB.out | apply below_alloc | apply pw_below_drewN | apply below_drew1 | refine below_set ?_ GE235.out) | exact HB.out)⟩
  · replace c2 := Bool.eq_false_iff.mpr c2
    subst c2
    have H1 : ((colonnaderef01_FormatInt.f k a0_3).bind fun t236 => (if a0_0 = 1 then (if a0_3 = 0 then (some (⟨#[70, 65, 76, 83, 69]⟩ : ByteArray)) else (some (⟨#[84, 82, 85, 69]⟩ : ByteArray))) else (if a0_0 = 2 then (some t236) else (if a0_0 = 3 then ((colonnaderef01_FormatDec.f k a0_3 a0_1).bind fun bt237 => (if bt237.2 = 0 then (some bt237.1) else (some t236))) else (if a0_0 = 4 then (colonnaderef02_Show.l0 k (([39] : List Int)) 0 a0_0 a0_1 false a0_3 a0_4) else (if a0_0 = 5 then ((colonnaderef01_FormatDay.f k a0_3).bind fun bt254 => (if bt254.2 = 0 then (some bt254.1) else (some t236))) else (some (⟨#[63]⟩ : ByteArray)))))))) = some r := by rw [if_neg (show ¬ (false = true) by decide)] at H; exact H
    clear H
    have H := H1
    clear H1
    replace H := Option.bind_eq_some_iff.mp H
    obtain ⟨t236, A50, H⟩ := H
    replace H : (if a0_0 = 1 then (if a0_3 = 0 then (some (⟨#[70, 65, 76, 83, 69]⟩ : ByteArray)) else (some (⟨#[84, 82, 85, 69]⟩ : ByteArray))) else (if a0_0 = 2 then (some t236) else (if a0_0 = 3 then ((colonnaderef01_FormatDec.f k a0_3 a0_1).bind fun bt237 => (if bt237.2 = 0 then (some bt237.1) else (some t236))) else (if a0_0 = 4 then (colonnaderef02_Show.l0 k (([39] : List Int)) 0 a0_0 a0_1 false a0_3 a0_4) else (if a0_0 = 5 then ((colonnaderef01_FormatDay.f k a0_3).bind fun bt254 => (if bt254.2 = 0 then (some bt254.1) else (some t236))) else (some (⟨#[63]⟩ : ByteArray))))))) = some r := H
    have A5 := Aside0.mk A50
    clear A50
    by_cases c6 : a0_0 = 1
    · rw [if_pos c6] at H
      have c6b0 : (a0_0 == 1) = true := beq_iff_eq.mpr c6
      have c6b1 : (a0_0 != 1) = false := bne_eq_false_iff_eq.mpr c6
      clear c6
      by_cases c7 : a0_3 = 0
      · rw [if_pos c7] at H
        have c7b0 : (a0_3 == 0) = true := beq_iff_eq.mpr c7
        have c7b1 : (a0_3 != 0) = false := bne_eq_false_iff_eq.mpr c7
        clear c7
        obtain rfl := Option.some.inj H
        go_enter Tryd.func13, Tryd.ntmps13
        go_wp2_with (first | ((with_reducible refine gate_dst (N := 1) rfl ?_); refine box_event ?hg (N := 1) ?hd (cs := #[.int .i64 a0_0, .int .i64 a0_1, .bool false, .int .i64 a0_3, .string a0_4]) (t := 25) ?hr ?_; (case hd => rfl); (case hg => rfl); (case hr => first | (go_simp; done) | (go_simp; rfl)); intro gb235 hg w8 hbox hb; have n0_ := Aside0.mk (below_step (by repeat (first | (with_reducible first | exact HB.out | apply below_alloc | apply pw_below_drewN | apply below_drew1) | exact HB.out)) hb); have n1_ := Aside0.mk (hbox); have n2_ := Aside0.mk ((by rw [hg]; exact (below_size (by repeat (first | (with_reducible first | exact HB.out | apply below_alloc | apply pw_below_drewN | apply below_drew1) | exact HB.out))) : w.heap.size ≤ gb235)); have n3_ := Aside0.mk ((by rw [hg]; exact (below_size (by repeat (first | (with_reducible first | exact HB.out | apply below_alloc | apply pw_below_drewN | apply below_drew1) | exact HB.out))) : w.heap.size ≤ gb235)); clear HB; have HB := n0_; have BK235 := n1_; have GW235 := n2_; have GE235 := n3_; clear n0_ n1_ n2_ n3_; clear hb hbox hg; have hcz9_0 : w8.cell? ⟨gb235, 0, none⟩ = some (.int .i64 a0_0) := (blk_cell BK235.out 0).trans rfl; have hcz9_1 : w8.cell? ⟨gb235, 1, none⟩ = some (.int .i64 a0_1) := (blk_cell BK235.out 1).trans rfl; have hcz9_2 : w8.cell? ⟨gb235, 2, none⟩ = some (.bool false) := (blk_cell BK235.out 2).trans rfl; have hcz9_3 : w8.cell? ⟨gb235, 3, none⟩ = some (.int .i64 a0_3) := (blk_cell BK235.out 3).trans rfl; have hcz9_4 : w8.cell? ⟨gb235, 4, none⟩ = some (.string a0_4) := (blk_cell BK235.out 4).trans rfl; have hfz9_0 := blk_frozen BK235.out 0; have hfz9_1 := blk_frozen BK235.out 1; have hfz9_2 := blk_frozen BK235.out 2; have hfz9_3 := blk_frozen BK235.out 3; have hfz9_4 := blk_frozen BK235.out 4) | ((with_reducible refine gate_callee (f := 50) rfl ?_); refine goesL_ (some 14) rfl rfl Tryd.func50 (by kernel_rfl) rfl #[.int .i64 a0_3] rfl (by (try simp only [List.map_toArray, List.map_cons, List.map_nil]); first | done | rfl | (simp only [List.length_drop, List.length_take]; rfl)) ?_; (with_reducible refine (colonnaderef01_FormatInt.calls k a0_3 t236 _ A5.out).mono ?_); rintro e w10 ⟨rfl, hb⟩; refine ⟨_, rfl, ?_⟩; have n0_ := Aside0.mk (blk_below (g := gb235) (o := .cells #[.int .i64 a0_0, .int .i64 a0_1, .bool false, .int .i64 a0_3, .string a0_4] 25 (0, 0)) (by (with_reducible repeat (first | refine blk_drewN ?_ _ | refine blk_drew ?_ | refine blk_alloc ?_ _)); exact BK235.out) hb); have n1_ := Aside0.mk (below_step (by repeat (first | (with_reducible first | exact HB.out | apply below_alloc | apply pw_below_drewN | apply below_drew1 | refine below_set ?_ GE235.out) | exact HB.out)) hb); clear BK235; clear HB; have BK235 := n0_; have HB := n1_; clear n0_ n1_; (try clear hb); (try clear hb2); (try clear hk); (try clear hi); have hcz11_0 : w10.cell? ⟨gb235, 0, none⟩ = some (.int .i64 a0_0) := (blk_cell BK235.out 0).trans rfl; have hcz11_1 : w10.cell? ⟨gb235, 1, none⟩ = some (.int .i64 a0_1) := (blk_cell BK235.out 1).trans rfl; have hcz11_2 : w10.cell? ⟨gb235, 2, none⟩ = some (.bool false) := (blk_cell BK235.out 2).trans rfl; have hcz11_3 : w10.cell? ⟨gb235, 3, none⟩ = some (.int .i64 a0_3) := (blk_cell BK235.out 3).trans rfl; have hcz11_4 : w10.cell? ⟨gb235, 4, none⟩ = some (.string a0_4) := (blk_cell BK235.out 4).trans rfl; have hfz11_0 := blk_frozen BK235.out 0; have hfz11_1 := blk_frozen BK235.out 1; have hfz11_2 := blk_frozen BK235.out 2; have hfz11_3 := blk_frozen BK235.out 3; have hfz11_4 := blk_frozen BK235.out 4))
        go_ret
        exact ⟨by first | rfl | (simp [errW_none, errW_some] <;> rfl) | (simp [*, errW_none, errW_some] <;> rfl), by repeat (first | (with_reducible first | exact HB.out | apply below_alloc | apply pw_below_drewN | apply below_drew1 | refine below_set ?_ GE235.out) | exact HB.out)⟩
      · rw [if_neg c7] at H
        have c7b0 : (a0_3 == 0) = false := beq_eq_false_iff_ne.mpr c7
        have c7b1 : (a0_3 != 0) = true := bne_iff_ne.mpr c7
        obtain rfl := Option.some.inj H
        go_enter Tryd.func13, Tryd.ntmps13
        go_wp2_with (first | ((with_reducible refine gate_dst (N := 1) rfl ?_); refine box_event ?hg (N := 1) ?hd (cs := #[.int .i64 a0_0, .int .i64 a0_1, .bool false, .int .i64 a0_3, .string a0_4]) (t := 25) ?hr ?_; (case hd => rfl); (case hg => rfl); (case hr => first | (go_simp; done) | (go_simp; rfl)); intro gb235 hg w12 hbox hb; have n0_ := Aside0.mk (below_step (by repeat (first | (with_reducible first | exact HB.out | apply below_alloc | apply pw_below_drewN | apply below_drew1) | exact HB.out)) hb); have n1_ := Aside0.mk (hbox); have n2_ := Aside0.mk ((by rw [hg]; exact (below_size (by repeat (first | (with_reducible first | exact HB.out | apply below_alloc | apply pw_below_drewN | apply below_drew1) | exact HB.out))) : w.heap.size ≤ gb235)); have n3_ := Aside0.mk ((by rw [hg]; exact (below_size (by repeat (first | (with_reducible first | exact HB.out | apply below_alloc | apply pw_below_drewN | apply below_drew1) | exact HB.out))) : w.heap.size ≤ gb235)); clear HB; have HB := n0_; have BK235 := n1_; have GW235 := n2_; have GE235 := n3_; clear n0_ n1_ n2_ n3_; clear hb hbox hg; have hcz13_0 : w12.cell? ⟨gb235, 0, none⟩ = some (.int .i64 a0_0) := (blk_cell BK235.out 0).trans rfl; have hcz13_1 : w12.cell? ⟨gb235, 1, none⟩ = some (.int .i64 a0_1) := (blk_cell BK235.out 1).trans rfl; have hcz13_2 : w12.cell? ⟨gb235, 2, none⟩ = some (.bool false) := (blk_cell BK235.out 2).trans rfl; have hcz13_3 : w12.cell? ⟨gb235, 3, none⟩ = some (.int .i64 a0_3) := (blk_cell BK235.out 3).trans rfl; have hcz13_4 : w12.cell? ⟨gb235, 4, none⟩ = some (.string a0_4) := (blk_cell BK235.out 4).trans rfl; have hfz13_0 := blk_frozen BK235.out 0; have hfz13_1 := blk_frozen BK235.out 1; have hfz13_2 := blk_frozen BK235.out 2; have hfz13_3 := blk_frozen BK235.out 3; have hfz13_4 := blk_frozen BK235.out 4) | ((with_reducible refine gate_callee (f := 50) rfl ?_); refine goesL_ (some 14) rfl rfl Tryd.func50 (by kernel_rfl) rfl #[.int .i64 a0_3] rfl (by (try simp only [List.map_toArray, List.map_cons, List.map_nil]); first | done | rfl | (simp only [List.length_drop, List.length_take]; rfl)) ?_; (with_reducible refine (colonnaderef01_FormatInt.calls k a0_3 t236 _ A5.out).mono ?_); rintro e w14 ⟨rfl, hb⟩; refine ⟨_, rfl, ?_⟩; have n0_ := Aside0.mk (blk_below (g := gb235) (o := .cells #[.int .i64 a0_0, .int .i64 a0_1, .bool false, .int .i64 a0_3, .string a0_4] 25 (0, 0)) (by (with_reducible repeat (first | refine blk_drewN ?_ _ | refine blk_drew ?_ | refine blk_alloc ?_ _)); exact BK235.out) hb); have n1_ := Aside0.mk (below_step (by repeat (first | (with_reducible first | exact HB.out | apply below_alloc | apply pw_below_drewN | apply below_drew1 | refine below_set ?_ GE235.out) | exact HB.out)) hb); clear BK235; clear HB; have BK235 := n0_; have HB := n1_; clear n0_ n1_; (try clear hb); (try clear hb2); (try clear hk); (try clear hi); have hcz15_0 : w14.cell? ⟨gb235, 0, none⟩ = some (.int .i64 a0_0) := (blk_cell BK235.out 0).trans rfl; have hcz15_1 : w14.cell? ⟨gb235, 1, none⟩ = some (.int .i64 a0_1) := (blk_cell BK235.out 1).trans rfl; have hcz15_2 : w14.cell? ⟨gb235, 2, none⟩ = some (.bool false) := (blk_cell BK235.out 2).trans rfl; have hcz15_3 : w14.cell? ⟨gb235, 3, none⟩ = some (.int .i64 a0_3) := (blk_cell BK235.out 3).trans rfl; have hcz15_4 : w14.cell? ⟨gb235, 4, none⟩ = some (.string a0_4) := (blk_cell BK235.out 4).trans rfl; have hfz15_0 := blk_frozen BK235.out 0; have hfz15_1 := blk_frozen BK235.out 1; have hfz15_2 := blk_frozen BK235.out 2; have hfz15_3 := blk_frozen BK235.out 3; have hfz15_4 := blk_frozen BK235.out 4))
        go_ret
        exact ⟨by first | rfl | (simp [errW_none, errW_some] <;> rfl) | (simp [*, errW_none, errW_some] <;> rfl), by repeat (first | (with_reducible first | exact HB.out | apply below_alloc | apply pw_below_drewN | apply below_drew1 | refine below_set ?_ GE235.out) | exact HB.out)⟩
    · rw [if_neg c6] at H
      have c6b0 : (a0_0 == 1) = false := beq_eq_false_iff_ne.mpr c6
      have c6b1 : (a0_0 != 1) = true := bne_iff_ne.mpr c6
      by_cases c16 : a0_0 = 2
      · rw [if_pos c16] at H
        have c16b0 : (a0_0 == 2) = true := beq_iff_eq.mpr c16
        have c16b1 : (a0_0 != 2) = false := bne_eq_false_iff_eq.mpr c16
        clear c16
        obtain rfl := Option.some.inj H
        go_enter Tryd.func13, Tryd.ntmps13
        go_wp2_with (first | ((with_reducible refine gate_dst (N := 1) rfl ?_); refine box_event ?hg (N := 1) ?hd (cs := #[.int .i64 a0_0, .int .i64 a0_1, .bool false, .int .i64 a0_3, .string a0_4]) (t := 25) ?hr ?_; (case hd => rfl); (case hg => rfl); (case hr => first | (go_simp; done) | (go_simp; rfl)); intro gb235 hg w17 hbox hb; have n0_ := Aside0.mk (below_step (by repeat (first | (with_reducible first | exact HB.out | apply below_alloc | apply pw_below_drewN | apply below_drew1) | exact HB.out)) hb); have n1_ := Aside0.mk (hbox); have n2_ := Aside0.mk ((by rw [hg]; exact (below_size (by repeat (first | (with_reducible first | exact HB.out | apply below_alloc | apply pw_below_drewN | apply below_drew1) | exact HB.out))) : w.heap.size ≤ gb235)); have n3_ := Aside0.mk ((by rw [hg]; exact (below_size (by repeat (first | (with_reducible first | exact HB.out | apply below_alloc | apply pw_below_drewN | apply below_drew1) | exact HB.out))) : w.heap.size ≤ gb235)); clear HB; have HB := n0_; have BK235 := n1_; have GW235 := n2_; have GE235 := n3_; clear n0_ n1_ n2_ n3_; clear hb hbox hg; have hcz18_0 : w17.cell? ⟨gb235, 0, none⟩ = some (.int .i64 a0_0) := (blk_cell BK235.out 0).trans rfl; have hcz18_1 : w17.cell? ⟨gb235, 1, none⟩ = some (.int .i64 a0_1) := (blk_cell BK235.out 1).trans rfl; have hcz18_2 : w17.cell? ⟨gb235, 2, none⟩ = some (.bool false) := (blk_cell BK235.out 2).trans rfl; have hcz18_3 : w17.cell? ⟨gb235, 3, none⟩ = some (.int .i64 a0_3) := (blk_cell BK235.out 3).trans rfl; have hcz18_4 : w17.cell? ⟨gb235, 4, none⟩ = some (.string a0_4) := (blk_cell BK235.out 4).trans rfl; have hfz18_0 := blk_frozen BK235.out 0; have hfz18_1 := blk_frozen BK235.out 1; have hfz18_2 := blk_frozen BK235.out 2; have hfz18_3 := blk_frozen BK235.out 3; have hfz18_4 := blk_frozen BK235.out 4) | ((with_reducible refine gate_callee (f := 50) rfl ?_); refine goesL_ (some 14) rfl rfl Tryd.func50 (by kernel_rfl) rfl #[.int .i64 a0_3] rfl (by (try simp only [List.map_toArray, List.map_cons, List.map_nil]); first | done | rfl | (simp only [List.length_drop, List.length_take]; rfl)) ?_; (with_reducible refine (colonnaderef01_FormatInt.calls k a0_3 t236 _ A5.out).mono ?_); rintro e w19 ⟨rfl, hb⟩; refine ⟨_, rfl, ?_⟩; have n0_ := Aside0.mk (blk_below (g := gb235) (o := .cells #[.int .i64 a0_0, .int .i64 a0_1, .bool false, .int .i64 a0_3, .string a0_4] 25 (0, 0)) (by (with_reducible repeat (first | refine blk_drewN ?_ _ | refine blk_drew ?_ | refine blk_alloc ?_ _)); exact BK235.out) hb); have n1_ := Aside0.mk (below_step (by repeat (first | (with_reducible first | exact HB.out | apply below_alloc | apply pw_below_drewN | apply below_drew1 | refine below_set ?_ GE235.out) | exact HB.out)) hb); clear BK235; clear HB; have BK235 := n0_; have HB := n1_; clear n0_ n1_; (try clear hb); (try clear hb2); (try clear hk); (try clear hi); have hcz20_0 : w19.cell? ⟨gb235, 0, none⟩ = some (.int .i64 a0_0) := (blk_cell BK235.out 0).trans rfl; have hcz20_1 : w19.cell? ⟨gb235, 1, none⟩ = some (.int .i64 a0_1) := (blk_cell BK235.out 1).trans rfl; have hcz20_2 : w19.cell? ⟨gb235, 2, none⟩ = some (.bool false) := (blk_cell BK235.out 2).trans rfl; have hcz20_3 : w19.cell? ⟨gb235, 3, none⟩ = some (.int .i64 a0_3) := (blk_cell BK235.out 3).trans rfl; have hcz20_4 : w19.cell? ⟨gb235, 4, none⟩ = some (.string a0_4) := (blk_cell BK235.out 4).trans rfl; have hfz20_0 := blk_frozen BK235.out 0; have hfz20_1 := blk_frozen BK235.out 1; have hfz20_2 := blk_frozen BK235.out 2; have hfz20_3 := blk_frozen BK235.out 3; have hfz20_4 := blk_frozen BK235.out 4))
        go_ret
        exact ⟨by first | rfl | (simp [errW_none, errW_some] <;> rfl) | (simp [*, errW_none, errW_some] <;> rfl), by repeat (first | (with_reducible first | exact HB.out | apply below_alloc | apply pw_below_drewN | apply below_drew1 | refine below_set ?_ GE235.out) | exact HB.out)⟩
      · rw [if_neg c16] at H
        have c16b0 : (a0_0 == 2) = false := beq_eq_false_iff_ne.mpr c16
        have c16b1 : (a0_0 != 2) = true := bne_iff_ne.mpr c16
        by_cases c21 : a0_0 = 3
        · rw [if_pos c21] at H
          have c21b0 : (a0_0 == 3) = true := beq_iff_eq.mpr c21
          have c21b1 : (a0_0 != 3) = false := bne_eq_false_iff_eq.mpr c21
          clear c21
          replace H := Option.bind_eq_some_iff.mp H
          obtain ⟨⟨t237, t238⟩, A220, H⟩ := H
          replace H : (if t238 = 0 then (some t237) else (some t236)) = some r := H
          have A22 := Aside0.mk A220
          clear A220
          by_cases c23 : t238 = 0
          · rw [if_pos c23] at H
            have c23b0 : (t238 == 0) = true := beq_iff_eq.mpr c23
            have c23b1 : (t238 != 0) = false := bne_eq_false_iff_eq.mpr c23
            clear c23
            obtain rfl := Option.some.inj H
            go_enter Tryd.func13, Tryd.ntmps13
            go_wp2_with (first | ((with_reducible refine gate_dst (N := 1) rfl ?_); refine box_event ?hg (N := 1) ?hd (cs := #[.int .i64 a0_0, .int .i64 a0_1, .bool false, .int .i64 a0_3, .string a0_4]) (t := 25) ?hr ?_; (case hd => rfl); (case hg => rfl); (case hr => first | (go_simp; done) | (go_simp; rfl)); intro gb235 hg w24 hbox hb; have n0_ := Aside0.mk (below_step (by repeat (first | (with_reducible first | exact HB.out | apply below_alloc | apply pw_below_drewN | apply below_drew1) | exact HB.out)) hb); have n1_ := Aside0.mk (hbox); have n2_ := Aside0.mk ((by rw [hg]; exact (below_size (by repeat (first | (with_reducible first | exact HB.out | apply below_alloc | apply pw_below_drewN | apply below_drew1) | exact HB.out))) : w.heap.size ≤ gb235)); have n3_ := Aside0.mk ((by rw [hg]; exact (below_size (by repeat (first | (with_reducible first | exact HB.out | apply below_alloc | apply pw_below_drewN | apply below_drew1) | exact HB.out))) : w.heap.size ≤ gb235)); clear HB; have HB := n0_; have BK235 := n1_; have GW235 := n2_; have GE235 := n3_; clear n0_ n1_ n2_ n3_; clear hb hbox hg; have hcz25_0 : w24.cell? ⟨gb235, 0, none⟩ = some (.int .i64 a0_0) := (blk_cell BK235.out 0).trans rfl; have hcz25_1 : w24.cell? ⟨gb235, 1, none⟩ = some (.int .i64 a0_1) := (blk_cell BK235.out 1).trans rfl; have hcz25_2 : w24.cell? ⟨gb235, 2, none⟩ = some (.bool false) := (blk_cell BK235.out 2).trans rfl; have hcz25_3 : w24.cell? ⟨gb235, 3, none⟩ = some (.int .i64 a0_3) := (blk_cell BK235.out 3).trans rfl; have hcz25_4 : w24.cell? ⟨gb235, 4, none⟩ = some (.string a0_4) := (blk_cell BK235.out 4).trans rfl; have hfz25_0 := blk_frozen BK235.out 0; have hfz25_1 := blk_frozen BK235.out 1; have hfz25_2 := blk_frozen BK235.out 2; have hfz25_3 := blk_frozen BK235.out 3; have hfz25_4 := blk_frozen BK235.out 4) | ((with_reducible refine gate_callee (f := 50) rfl ?_); refine goesL_ (some 14) rfl rfl Tryd.func50 (by kernel_rfl) rfl #[.int .i64 a0_3] rfl (by (try simp only [List.map_toArray, List.map_cons, List.map_nil]); first | done | rfl | (simp only [List.length_drop, List.length_take]; rfl)) ?_; (with_reducible refine (colonnaderef01_FormatInt.calls k a0_3 t236 _ A5.out).mono ?_); rintro e w26 ⟨rfl, hb⟩; refine ⟨_, rfl, ?_⟩; have n0_ := Aside0.mk (blk_below (g := gb235) (o := .cells #[.int .i64 a0_0, .int .i64 a0_1, .bool false, .int .i64 a0_3, .string a0_4] 25 (0, 0)) (by (with_reducible repeat (first | refine blk_drewN ?_ _ | refine blk_drew ?_ | refine blk_alloc ?_ _)); exact BK235.out) hb); have n1_ := Aside0.mk (below_step (by repeat (first | (with_reducible first | exact HB.out | apply below_alloc | apply pw_below_drewN | apply below_drew1 | refine below_set ?_ GE235.out) | exact HB.out)) hb); clear BK235; clear HB; have BK235 := n0_; have HB := n1_; clear n0_ n1_; (try clear hb); (try clear hb2); (try clear hk); (try clear hi); have hcz27_0 : w26.cell? ⟨gb235, 0, none⟩ = some (.int .i64 a0_0) := (blk_cell BK235.out 0).trans rfl; have hcz27_1 : w26.cell? ⟨gb235, 1, none⟩ = some (.int .i64 a0_1) := (blk_cell BK235.out 1).trans rfl; have hcz27_2 : w26.cell? ⟨gb235, 2, none⟩ = some (.bool false) := (blk_cell BK235.out 2).trans rfl; have hcz27_3 : w26.cell? ⟨gb235, 3, none⟩ = some (.int .i64 a0_3) := (blk_cell BK235.out 3).trans rfl; have hcz27_4 : w26.cell? ⟨gb235, 4, none⟩ = some (.string a0_4) := (blk_cell BK235.out 4).trans rfl; have hfz27_0 := blk_frozen BK235.out 0; have hfz27_1 := blk_frozen BK235.out 1; have hfz27_2 := blk_frozen BK235.out 2; have hfz27_3 := blk_frozen BK235.out 3; have hfz27_4 := blk_frozen BK235.out 4) | ((with_reducible refine gate_callee (f := 51) rfl ?_); refine goesL_ (some 34) rfl rfl Tryd.func51 (by kernel_rfl) rfl #[.int .i64 a0_3, .int .i64 a0_1] rfl (by (try simp only [List.map_toArray, List.map_cons, List.map_nil]); first | done | rfl | (simp only [List.length_drop, List.length_take]; rfl)) ?_; (with_reducible refine (colonnaderef01_FormatDec.calls k a0_3 a0_1 t237 t238 _ A22.out).mono ?_); rintro e w28 ⟨rfl, hb⟩; refine ⟨_, rfl, ?_⟩; have n0_ := Aside0.mk (blk_below (g := gb235) (o := .cells #[.int .i64 a0_0, .int .i64 a0_1, .bool false, .int .i64 a0_3, .string a0_4] 25 (0, 0)) (by (with_reducible repeat (first | refine blk_drewN ?_ _ | refine blk_drew ?_ | refine blk_alloc ?_ _)); exact BK235.out) hb); have n1_ := Aside0.mk (below_step (by repeat (first | (with_reducible first | exact HB.out | apply below_alloc | apply pw_below_drewN | apply below_drew1 | refine below_set ?_ GE235.out) | exact HB.out)) hb); clear BK235; clear HB; have BK235 := n0_; have HB := n1_; clear n0_ n1_; (try clear hb); (try clear hb2); (try clear hk); (try clear hi)))
            go_ret
            exact ⟨by first | rfl | (simp [errW_none, errW_some] <;> rfl) | (simp [*, errW_none, errW_some] <;> rfl), by repeat (first | (with_reducible first | exact HB.out | apply below_alloc | apply pw_below_drewN | apply below_drew1 | refine below_set ?_ GE235.out) | exact HB.out)⟩
          · rw [if_neg c23] at H
            have c23b0 : (t238 == 0) = false := beq_eq_false_iff_ne.mpr c23
            have c23b1 : (t238 != 0) = true := bne_iff_ne.mpr c23
            obtain rfl := Option.some.inj H
            go_enter Tryd.func13, Tryd.ntmps13
            go_wp2_with (first | ((with_reducible refine gate_dst (N := 1) rfl ?_); refine box_event ?hg (N := 1) ?hd (cs := #[.int .i64 a0_0, .int .i64 a0_1, .bool false, .int .i64 a0_3, .string a0_4]) (t := 25) ?hr ?_; (case hd => rfl); (case hg => rfl); (case hr => first | (go_simp; done) | (go_simp; rfl)); intro gb235 hg w29 hbox hb; have n0_ := Aside0.mk (below_step (by repeat (first | (with_reducible first | exact HB.out | apply below_alloc | apply pw_below_drewN | apply below_drew1) | exact HB.out)) hb); have n1_ := Aside0.mk (hbox); have n2_ := Aside0.mk ((by rw [hg]; exact (below_size (by repeat (first | (with_reducible first | exact HB.out | apply below_alloc | apply pw_below_drewN | apply below_drew1) | exact HB.out))) : w.heap.size ≤ gb235)); have n3_ := Aside0.mk ((by rw [hg]; exact (below_size (by repeat (first | (with_reducible first | exact HB.out | apply below_alloc | apply pw_below_drewN | apply below_drew1) | exact HB.out))) : w.heap.size ≤ gb235)); clear HB; have HB := n0_; have BK235 := n1_; have GW235 := n2_; have GE235 := n3_; clear n0_ n1_ n2_ n3_; clear hb hbox hg; have hcz30_0 : w29.cell? ⟨gb235, 0, none⟩ = some (.int .i64 a0_0) := (blk_cell BK235.out 0).trans rfl; have hcz30_1 : w29.cell? ⟨gb235, 1, none⟩ = some (.int .i64 a0_1) := (blk_cell BK235.out 1).trans rfl; have hcz30_2 : w29.cell? ⟨gb235, 2, none⟩ = some (.bool false) := (blk_cell BK235.out 2).trans rfl; have hcz30_3 : w29.cell? ⟨gb235, 3, none⟩ = some (.int .i64 a0_3) := (blk_cell BK235.out 3).trans rfl; have hcz30_4 : w29.cell? ⟨gb235, 4, none⟩ = some (.string a0_4) := (blk_cell BK235.out 4).trans rfl; have hfz30_0 := blk_frozen BK235.out 0; have hfz30_1 := blk_frozen BK235.out 1; have hfz30_2 := blk_frozen BK235.out 2; have hfz30_3 := blk_frozen BK235.out 3; have hfz30_4 := blk_frozen BK235.out 4) | ((with_reducible refine gate_callee (f := 50) rfl ?_); refine goesL_ (some 14) rfl rfl Tryd.func50 (by kernel_rfl) rfl #[.int .i64 a0_3] rfl (by (try simp only [List.map_toArray, List.map_cons, List.map_nil]); first | done | rfl | (simp only [List.length_drop, List.length_take]; rfl)) ?_; (with_reducible refine (colonnaderef01_FormatInt.calls k a0_3 t236 _ A5.out).mono ?_); rintro e w31 ⟨rfl, hb⟩; refine ⟨_, rfl, ?_⟩; have n0_ := Aside0.mk (blk_below (g := gb235) (o := .cells #[.int .i64 a0_0, .int .i64 a0_1, .bool false, .int .i64 a0_3, .string a0_4] 25 (0, 0)) (by (with_reducible repeat (first | refine blk_drewN ?_ _ | refine blk_drew ?_ | refine blk_alloc ?_ _)); exact BK235.out) hb); have n1_ := Aside0.mk (below_step (by repeat (first | (with_reducible first | exact HB.out | apply below_alloc | apply pw_below_drewN | apply below_drew1 | refine below_set ?_ GE235.out) | exact HB.out)) hb); clear BK235; clear HB; have BK235 := n0_; have HB := n1_; clear n0_ n1_; (try clear hb); (try clear hb2); (try clear hk); (try clear hi); have hcz32_0 : w31.cell? ⟨gb235, 0, none⟩ = some (.int .i64 a0_0) := (blk_cell BK235.out 0).trans rfl; have hcz32_1 : w31.cell? ⟨gb235, 1, none⟩ = some (.int .i64 a0_1) := (blk_cell BK235.out 1).trans rfl; have hcz32_2 : w31.cell? ⟨gb235, 2, none⟩ = some (.bool false) := (blk_cell BK235.out 2).trans rfl; have hcz32_3 : w31.cell? ⟨gb235, 3, none⟩ = some (.int .i64 a0_3) := (blk_cell BK235.out 3).trans rfl; have hcz32_4 : w31.cell? ⟨gb235, 4, none⟩ = some (.string a0_4) := (blk_cell BK235.out 4).trans rfl; have hfz32_0 := blk_frozen BK235.out 0; have hfz32_1 := blk_frozen BK235.out 1; have hfz32_2 := blk_frozen BK235.out 2; have hfz32_3 := blk_frozen BK235.out 3; have hfz32_4 := blk_frozen BK235.out 4) | ((with_reducible refine gate_callee (f := 51) rfl ?_); refine goesL_ (some 34) rfl rfl Tryd.func51 (by kernel_rfl) rfl #[.int .i64 a0_3, .int .i64 a0_1] rfl (by (try simp only [List.map_toArray, List.map_cons, List.map_nil]); first | done | rfl | (simp only [List.length_drop, List.length_take]; rfl)) ?_; (with_reducible refine (colonnaderef01_FormatDec.calls k a0_3 a0_1 t237 t238 _ A22.out).mono ?_); rintro e w33 ⟨rfl, hb⟩; refine ⟨_, rfl, ?_⟩; have n0_ := Aside0.mk (blk_below (g := gb235) (o := .cells #[.int .i64 a0_0, .int .i64 a0_1, .bool false, .int .i64 a0_3, .string a0_4] 25 (0, 0)) (by (with_reducible repeat (first | refine blk_drewN ?_ _ | refine blk_drew ?_ | refine blk_alloc ?_ _)); exact BK235.out) hb); have n1_ := Aside0.mk (below_step (by repeat (first | (with_reducible first | exact HB.out | apply below_alloc | apply pw_below_drewN | apply below_drew1 | refine below_set ?_ GE235.out) | exact HB.out)) hb); clear BK235; clear HB; have BK235 := n0_; have HB := n1_; clear n0_ n1_; (try clear hb); (try clear hb2); (try clear hk); (try clear hi)))
            go_ret
            exact ⟨by first | rfl | (simp [errW_none, errW_some] <;> rfl) | (simp [*, errW_none, errW_some] <;> rfl), by repeat (first | (with_reducible first | exact HB.out | apply below_alloc | apply pw_below_drewN | apply below_drew1 | refine below_set ?_ GE235.out) | exact HB.out)⟩
        · rw [if_neg c21] at H
          have c21b0 : (a0_0 == 3) = false := beq_eq_false_iff_ne.mpr c21
          have c21b1 : (a0_0 != 3) = true := bne_iff_ne.mpr c21
          by_cases c34 : a0_0 = 4
          · rw [if_pos c34] at H
            have c34b0 : (a0_0 == 4) = true := beq_iff_eq.mpr c34
            have c34b1 : (a0_0 != 4) = false := bne_eq_false_iff_eq.mpr c34
            clear c34
            obtain ⟨y239, hy239⟩ : ∃ y_ : List Int, y_ = (([39] : List Int)) := ⟨_, rfl⟩
            replace H : (colonnaderef02_Show.l0 k y239 0 a0_0 a0_1 false a0_3 a0_4) = some r := by first | (rw [hy239]; with_reducible exact H) | (have H2_ := (Option.bind_some _ _).symm.trans H; rw [hy239]; with_reducible exact H2_) | (have H2_ := (Option.bind_some _ _).symm.trans H; with_reducible exact H2_) | with_reducible exact H | (rw [hy239]; exact H) | exact H
            have Ny239 := Aside0.mk hy239
            clear hy239
            have H' := Aside0.mk H
            clear H
            go_enter Tryd.func13, Tryd.ntmps13
            go_wp2_with (first | ((with_reducible refine gate_dst (N := 1) rfl ?_); refine box_event ?hg (N := 1) ?hd (cs := #[.int .i64 a0_0, .int .i64 a0_1, .bool false, .int .i64 a0_3, .string a0_4]) (t := 25) ?hr ?_; (case hd => rfl); (case hg => rfl); (case hr => first | (go_simp; done) | (go_simp; rfl)); intro gb235 hg w35 hbox hb; have n0_ := Aside0.mk (below_step (by repeat (first | (with_reducible first | exact HB.out | apply below_alloc | apply pw_below_drewN | apply below_drew1) | exact HB.out)) hb); have n1_ := Aside0.mk (hbox); have n2_ := Aside0.mk ((by rw [hg]; exact (below_size (by repeat (first | (with_reducible first | exact HB.out | apply below_alloc | apply pw_below_drewN | apply below_drew1) | exact HB.out))) : w.heap.size ≤ gb235)); have n3_ := Aside0.mk ((by rw [hg]; exact (below_size (by repeat (first | (with_reducible first | exact HB.out | apply below_alloc | apply pw_below_drewN | apply below_drew1) | exact HB.out))) : w.heap.size ≤ gb235)); clear HB; have HB := n0_; have BK235 := n1_; have GW235 := n2_; have GE235 := n3_; clear n0_ n1_ n2_ n3_; clear hb hbox hg; have hcz36_0 : w35.cell? ⟨gb235, 0, none⟩ = some (.int .i64 a0_0) := (blk_cell BK235.out 0).trans rfl; have hcz36_1 : w35.cell? ⟨gb235, 1, none⟩ = some (.int .i64 a0_1) := (blk_cell BK235.out 1).trans rfl; have hcz36_2 : w35.cell? ⟨gb235, 2, none⟩ = some (.bool false) := (blk_cell BK235.out 2).trans rfl; have hcz36_3 : w35.cell? ⟨gb235, 3, none⟩ = some (.int .i64 a0_3) := (blk_cell BK235.out 3).trans rfl; have hcz36_4 : w35.cell? ⟨gb235, 4, none⟩ = some (.string a0_4) := (blk_cell BK235.out 4).trans rfl; have hfz36_0 := blk_frozen BK235.out 0; have hfz36_1 := blk_frozen BK235.out 1; have hfz36_2 := blk_frozen BK235.out 2; have hfz36_3 := blk_frozen BK235.out 3; have hfz36_4 := blk_frozen BK235.out 4) | ((with_reducible refine gate_callee (f := 50) rfl ?_); refine goesL_ (some 14) rfl rfl Tryd.func50 (by kernel_rfl) rfl #[.int .i64 a0_3] rfl (by (try simp only [List.map_toArray, List.map_cons, List.map_nil]); first | done | rfl | (simp only [List.length_drop, List.length_take]; rfl)) ?_; (with_reducible refine (colonnaderef01_FormatInt.calls k a0_3 t236 _ A5.out).mono ?_); rintro e w37 ⟨rfl, hb⟩; refine ⟨_, rfl, ?_⟩; have n0_ := Aside0.mk (blk_below (g := gb235) (o := .cells #[.int .i64 a0_0, .int .i64 a0_1, .bool false, .int .i64 a0_3, .string a0_4] 25 (0, 0)) (by (with_reducible repeat (first | refine blk_drewN ?_ _ | refine blk_drew ?_ | refine blk_alloc ?_ _)); exact BK235.out) hb); have n1_ := Aside0.mk (below_step (by repeat (first | (with_reducible first | exact HB.out | apply below_alloc | apply pw_below_drewN | apply below_drew1 | refine below_set ?_ GE235.out) | exact HB.out)) hb); clear BK235; clear HB; have BK235 := n0_; have HB := n1_; clear n0_ n1_; (try clear hb); (try clear hb2); (try clear hk); (try clear hi); have hcz38_0 : w37.cell? ⟨gb235, 0, none⟩ = some (.int .i64 a0_0) := (blk_cell BK235.out 0).trans rfl; have hcz38_1 : w37.cell? ⟨gb235, 1, none⟩ = some (.int .i64 a0_1) := (blk_cell BK235.out 1).trans rfl; have hcz38_2 : w37.cell? ⟨gb235, 2, none⟩ = some (.bool false) := (blk_cell BK235.out 2).trans rfl; have hcz38_3 : w37.cell? ⟨gb235, 3, none⟩ = some (.int .i64 a0_3) := (blk_cell BK235.out 3).trans rfl; have hcz38_4 : w37.cell? ⟨gb235, 4, none⟩ = some (.string a0_4) := (blk_cell BK235.out 4).trans rfl; have hfz38_0 := blk_frozen BK235.out 0; have hfz38_1 := blk_frozen BK235.out 1; have hfz38_2 := blk_frozen BK235.out 2; have hfz38_3 := blk_frozen BK235.out 3; have hfz38_4 := blk_frozen BK235.out 4) | ((with_reducible refine gate_dst (N := 43) rfl ?_); refine Kd.R_lit (Kd.int .u8) _ 5 ?hg (N := 43) ?hd (xs := ([39] : List Int)) (inner := [.int .u8 39]) (ok := fun _ => True) (okp := fun _ => True) ?hr ?hp (fun _ hk => hk) trivial (Below.refl _ _) (Nat.le_refl _) (by simp) ?_; (case hd => rfl); (case hg => rfl); (case hr => first | (go_simp; done) | (go_simp; rfl)); (case hp => exact (Reps.one (show Kd.M (Kd.int .u8) _ _ _ 39 [.int .u8 39] from rfl) (Reps.none _ _))); intro v240 w39 ho40 hb hg_ hnew_; clear hg_ hnew_; (first | rw [← Ny239.out] at ho40 | (simp only [Int.reduceToNat] at ho40; rw [← Ny239.out] at ho40)); have n0_ := Aside0.mk (Kd.R_lower ho40 (below_size (by repeat (first | (with_reducible first | exact HB.out | apply below_alloc | apply pw_below_drewN | apply below_drew1 | refine below_set ?_ GE235.out) | exact HB.out)))); have n1_ := Aside0.mk (blk_below (g := gb235) (o := .cells #[.int .i64 a0_0, .int .i64 a0_1, .bool false, .int .i64 a0_3, .string a0_4] 25 (0, 0)) (by (with_reducible repeat (first | refine blk_drewN ?_ _ | refine blk_drew ?_ | refine blk_alloc ?_ _)); exact BK235.out) hb); have n2_ := Aside0.mk (below_step (by repeat (first | (with_reducible first | exact HB.out | apply below_alloc | apply pw_below_drewN | apply below_drew1 | refine below_set ?_ GE235.out) | exact HB.out)) hb); clear BK235; clear HB; have HO241 := n0_; have BK235 := n1_; have HB := n2_; clear n0_ n1_ n2_; clear hb ho40))
            go_loopg [6, 7] k (fun kq v6 v7 w' => ∃ (x6_1 : List Int) (x7_1 : Int), v7 = .int .i64 x7_1 ∧ Aside0 (colonnaderef02_Show.l0 kq x6_1 x7_1 a0_0 a0_1 false a0_3 a0_4 = some r) ∧ Aside0 (kq ≤ k) ∧ Aside0 (Kd.R (Kd.int .u8) 5 w' w.heap.size (fun _ => True) v6 x6_1) ∧ Aside0 (w'.heap[gb235]? = some (.cells #[.int .i64 a0_0, .int .i64 a0_1, .bool false, .int .i64 a0_3, .string a0_4] 25 (0, 0))) ∧ Aside0 (Below w.heap.size w w'))
            case atStart => exact ⟨(y239), (0), (by first | rfl | (simp; done) | (simp [*]; done)), H', ⟨Nat.le_refl _⟩, ⟨by (with_reducible repeat (first | apply Kd.R_alloc | apply Kd.R_drewN | apply Kd.R_drew)); exact HO241.out⟩, ⟨by (with_reducible repeat (first | refine blk_drewN ?_ _ | refine blk_drew ?_ | refine blk_alloc ?_ _)); exact BK235.out⟩, ⟨by repeat (first | (with_reducible first | exact HB.out | apply below_alloc | apply pw_below_drewN | apply below_drew1 | refine below_set ?_ GE235.out) | exact HB.out)⟩⟩
            case round =>
              clear H'
              try clear c1
              try clear c2
              try clear p2
              try clear c3
              try clear c5
              try clear c6
              try clear c6b0
              try clear c6b1
              try clear c7
              try clear c7b0
              try clear c7b1
              try clear c13
              try clear c16
              try clear c16b0
              try clear c16b1
              try clear c21
              try clear c21b0
              try clear c21b1
              try clear c23
              try clear c23b0
              try clear c23b1
              try clear c34
              try clear c34b0
              try clear c34b1
              try clear hcz11_0
              try clear hcz11_1
              try clear hcz11_2
              try clear hcz11_3
              try clear hcz11_4
              try clear hcz13_0
              try clear hcz13_1
              try clear hcz13_2
              try clear hcz13_3
              try clear hcz13_4
              try clear hcz15_0
              try clear hcz15_1
              try clear hcz15_2
              try clear hcz15_3
              try clear hcz15_4
              try clear hcz18_0
              try clear hcz18_1
              try clear hcz18_2
              try clear hcz18_3
              try clear hcz18_4
              try clear hcz20_0
              try clear hcz20_1
              try clear hcz20_2
              try clear hcz20_3
              try clear hcz20_4
              try clear hcz25_0
              try clear hcz25_1
              try clear hcz25_2
              try clear hcz25_3
              try clear hcz25_4
              try clear hcz27_0
              try clear hcz27_1
              try clear hcz27_2
              try clear hcz27_3
              try clear hcz27_4
              try clear hcz30_0
              try clear hcz30_1
              try clear hcz30_2
              try clear hcz30_3
              try clear hcz30_4
              try clear hcz32_0
              try clear hcz32_1
              try clear hcz32_2
              try clear hcz32_3
              try clear hcz32_4
              try clear hcz36_0
              try clear hcz36_1
              try clear hcz36_2
              try clear hcz36_3
              try clear hcz36_4
              try clear hcz38_0
              try clear hcz38_1
              try clear hcz38_2
              try clear hcz38_3
              try clear hcz38_4
              try clear hcz4_0
              try clear hcz4_1
              try clear hcz4_2
              try clear hcz4_3
              try clear hcz4_4
              try clear hcz9_0
              try clear hcz9_1
              try clear hcz9_2
              try clear hcz9_3
              try clear hcz9_4
              try clear hfz11_0
              try clear hfz11_1
              try clear hfz11_2
              try clear hfz11_3
              try clear hfz11_4
              try clear hfz13_0
              try clear hfz13_1
              try clear hfz13_2
              try clear hfz13_3
              try clear hfz13_4
              try clear hfz15_0
              try clear hfz15_1
              try clear hfz15_2
              try clear hfz15_3
              try clear hfz15_4
              try clear hfz18_0
              try clear hfz18_1
              try clear hfz18_2
              try clear hfz18_3
              try clear hfz18_4
              try clear hfz20_0
              try clear hfz20_1
              try clear hfz20_2
              try clear hfz20_3
              try clear hfz20_4
              try clear hfz25_0
              try clear hfz25_1
              try clear hfz25_2
              try clear hfz25_3
              try clear hfz25_4
              try clear hfz27_0
              try clear hfz27_1
              try clear hfz27_2
              try clear hfz27_3
              try clear hfz27_4
              try clear hfz30_0
              try clear hfz30_1
              try clear hfz30_2
              try clear hfz30_3
              try clear hfz30_4
              try clear hfz32_0
              try clear hfz32_1
              try clear hfz32_2
              try clear hfz32_3
              try clear hfz32_4
              try clear hfz36_0
              try clear hfz36_1
              try clear hfz36_2
              try clear hfz36_3
              try clear hfz36_4
              try clear hfz38_0
              try clear hfz38_1
              try clear hfz38_2
              try clear hfz38_3
              try clear hfz38_4
              try clear hfz4_0
              try clear hfz4_1
              try clear hfz4_2
              try clear hfz4_3
              try clear hfz4_4
              try clear hfz9_0
              try clear hfz9_1
              try clear hfz9_2
              try clear hfz9_3
              try clear hfz9_4
              obtain ⟨x6_1, x7_1, rfl, HA, HK1, HO_6, BK235, HB⟩ := hrel
              cases gk with
              | zero => exact absurd HA.out (by simp [colonnaderef02_Show.l0])
              | succ k1 =>
                have H := HA.out
                clear HA
                simp only [colonnaderef02_Show.l0] at H
                by_cases c41 : x7_1 < (a0_4.size : Int)
                · rw [if_pos c41] at H
                  have c41b0 : decide (x7_1 < (a0_4.size : Int)) = true := decide_eq_true c41
                  clear c41
                  by_cases c42 : 0 ≤ x7_1
                  · rw [if_pos c42] at H
                    have c42b0 : decide (0 ≤ x7_1) = true := decide_eq_true c42
                    clear c42
                    by_cases c44 : (bt a0_4 x7_1) = 39
                    · rw [if_pos c44] at H
                      have c44b0 : ((bt a0_4 x7_1) == 39) = true := beq_iff_eq.mpr c44
                      have c44b1 : ((bt a0_4 x7_1) != 39) = false := bne_eq_false_iff_eq.mpr c44
                      clear c44
                      by_cases c45 : x6_1.length < 140737488355328
                      · rw [if_pos c45] at H
                        have LMc45 := Aside0.mk c45
                        clear c45
                        obtain ⟨y242, hy242⟩ : ∃ y_ : List Int, y_ = (x6_1 ++ [39]) := ⟨_, rfl⟩
                        replace H : (if y242.length < 140737488355328 then (colonnaderef02_Show.l0 k1 (y242 ++ [bt a0_4 x7_1]) (wrap64 (x7_1 + 1)) a0_0 a0_1 false a0_3 a0_4) else (none)) = some r := by first | (rw [hy242]; with_reducible exact H) | (have H2_ := (Option.bind_some _ _).symm.trans H; rw [hy242]; with_reducible exact H2_) | (have H2_ := (Option.bind_some _ _).symm.trans H; with_reducible exact H2_) | with_reducible exact H | (rw [hy242]; exact H) | exact H
                        have Ny242 := Aside0.mk hy242
                        clear hy242
                        by_cases c47 : y242.length < 140737488355328
                        · rw [if_pos c47] at H
                          have LMc47 := Aside0.mk c47
                          clear c47
                          obtain ⟨y245, hy245⟩ : ∃ y_ : List Int, y_ = (y242 ++ [bt a0_4 x7_1]) := ⟨_, rfl⟩
                          replace H : (colonnaderef02_Show.l0 k1 y245 (wrap64 (x7_1 + 1)) a0_0 a0_1 false a0_3 a0_4) = some r := by first | (rw [hy245]; with_reducible exact H) | (have H2_ := (Option.bind_some _ _).symm.trans H; rw [hy245]; with_reducible exact H2_) | (have H2_ := (Option.bind_some _ _).symm.trans H; with_reducible exact H2_) | with_reducible exact H | (rw [hy245]; exact H) | exact H
                          have Ny245 := Aside0.mk hy245
                          clear hy245
                          have H' := Aside0.mk H
                          clear H
                          have hcz48_0 : wr.cell? ⟨gb235, 0, none⟩ = some (.int .i64 a0_0) := (blk_cell BK235.out 0).trans rfl
                          have hcz48_1 : wr.cell? ⟨gb235, 1, none⟩ = some (.int .i64 a0_1) := (blk_cell BK235.out 1).trans rfl
                          have hcz48_2 : wr.cell? ⟨gb235, 2, none⟩ = some (.bool false) := (blk_cell BK235.out 2).trans rfl
                          have hcz48_3 : wr.cell? ⟨gb235, 3, none⟩ = some (.int .i64 a0_3) := (blk_cell BK235.out 3).trans rfl
                          have hcz48_4 : wr.cell? ⟨gb235, 4, none⟩ = some (.string a0_4) := (blk_cell BK235.out 4).trans rfl
                          have hfz48_0 := blk_frozen BK235.out 0
                          have hfz48_1 := blk_frozen BK235.out 1
                          have hfz48_2 := blk_frozen BK235.out 2
                          have hfz48_3 := blk_frozen BK235.out 3
                          have hfz48_4 := blk_frozen BK235.out 4
                          have p43 : 0 ≤ (x7_1 : Int) := of_decide_eq_true (by first | (with_reducible assumption) | assumption)
                          have q43 : x7_1 < (a0_4.size : Int) := of_decide_eq_true (by first | (with_reducible assumption) | assumption)
                          have hx43 := bt_at a0_4 x7_1
                          replace p43 := eq_true p43
                          replace q43 := eq_true q43
                          go_wp2_with (first | ((with_reducible refine gate_builtin (b := .append) (xs := #[.tmp 56, .tmp 57]) rfl ?_); at_builtin; refine Kd.R_append (Kd.int .u8) (w0 := w) w.heap.size rfl (.tmp 56) (.tmp 57) 61 5 (.int .u8 0) 1 rfl Tryd.underlying61 info5 rfl (by decide) (by omega) u6 x6_1 39 [.int .u8 39] (fun _ => True) (fun _ => False) rfl rfl ?aP (fun _ hk => hk.elim) ?aF ?aO ?aB ?aS ?aL ?_; (case aP => exact rfl); (case aB => exact (by repeat (first | (with_reducible first | exact HB.out | apply below_alloc | apply pw_below_drewN | apply below_drew1 | refine below_set ?_ GE235.out) | exact HB.out))); (case aF => exact (fun _ _ => trivial)); (case aO => exact (by (with_reducible repeat (first | apply Kd.R_alloc | apply Kd.R_drewN | apply Kd.R_drew)); exact HO_6.out)); (case aS => exact (below_size (by repeat (first | (with_reducible first | exact HB.out | apply below_alloc | apply pw_below_drewN | apply below_drew1 | refine below_set ?_ GE235.out) | exact HB.out)))); (case aL => have := LMc45.out; omega); intro v243 w49 ho hb hg hat; rw [← Ny242.out] at ho; have n0_ := Aside0.mk (blk_grown (g := gb235) (o := .cells #[.int .i64 a0_0, .int .i64 a0_1, .bool false, .int .i64 a0_3, .string a0_4] 25 (0, 0)) (by (with_reducible repeat (first | refine blk_drewN ?_ _ | refine blk_drew ?_ | refine blk_alloc ?_ _)); exact BK235.out) hg (Kd.R_ne HO_6.out BK235.out (by decide))); have n1_ := Aside0.mk (hb); have n2_ := Aside0.mk (ho); clear BK235; clear HB; clear HO_6; have BK235 := n0_; have HB := n1_; have HO244 := n2_; clear n0_ n1_ n2_; clear ho hb hg hat; have hcz50_0 : w49.cell? ⟨gb235, 0, none⟩ = some (.int .i64 a0_0) := (blk_cell BK235.out 0).trans rfl; have hcz50_1 : w49.cell? ⟨gb235, 1, none⟩ = some (.int .i64 a0_1) := (blk_cell BK235.out 1).trans rfl; have hcz50_2 : w49.cell? ⟨gb235, 2, none⟩ = some (.bool false) := (blk_cell BK235.out 2).trans rfl; have hcz50_3 : w49.cell? ⟨gb235, 3, none⟩ = some (.int .i64 a0_3) := (blk_cell BK235.out 3).trans rfl; have hcz50_4 : w49.cell? ⟨gb235, 4, none⟩ = some (.string a0_4) := (blk_cell BK235.out 4).trans rfl; have hfz50_0 := blk_frozen BK235.out 0; have hfz50_1 := blk_frozen BK235.out 1; have hfz50_2 := blk_frozen BK235.out 2; have hfz50_3 := blk_frozen BK235.out 3; have hfz50_4 := blk_frozen BK235.out 4; have p46 : 0 ≤ (x7_1 : Int) := of_decide_eq_true (by first | (with_reducible assumption) | assumption); have q46 : x7_1 < (a0_4.size : Int) := of_decide_eq_true (by first | (with_reducible assumption) | assumption); have hx46 := bt_at a0_4 x7_1; replace p46 := eq_true p46; replace q46 := eq_true q46) | ((with_reducible refine gate_builtin (b := .append) (xs := #[.tmp 59, .tmp 64]) rfl ?_); at_builtin; refine Kd.R_append (Kd.int .u8) (w0 := w) w.heap.size rfl (.tmp 59) (.tmp 64) 61 5 (.int .u8 0) 1 rfl Tryd.underlying61 info5 rfl (by decide) (by omega) v243 y242 (bt a0_4 x7_1) [.int .u8 (bt a0_4 x7_1)] (fun _ => True) (fun _ => False) rfl rfl ?aP (fun _ hk => hk.elim) ?aF ?aO ?aB ?aS ?aL ?_; (case aP => exact rfl); (case aB => exact (by repeat (first | (with_reducible first | exact HB.out | apply below_alloc | apply pw_below_drewN | apply below_drew1 | refine below_set ?_ GE235.out) | exact HB.out))); (case aF => exact (fun _ _ => trivial)); (case aO => exact (by (with_reducible repeat (first | apply Kd.R_alloc | apply Kd.R_drewN | apply Kd.R_drew)); exact HO244.out)); (case aS => exact (below_size (by repeat (first | (with_reducible first | exact HB.out | apply below_alloc | apply pw_below_drewN | apply below_drew1 | refine below_set ?_ GE235.out) | exact HB.out)))); (case aL => have := LMc47.out; omega); intro v246 w51 ho hb hg hat; rw [← Ny245.out] at ho; have n0_ := Aside0.mk (blk_grown (g := gb235) (o := .cells #[.int .i64 a0_0, .int .i64 a0_1, .bool false, .int .i64 a0_3, .string a0_4] 25 (0, 0)) (by (with_reducible repeat (first | refine blk_drewN ?_ _ | refine blk_drew ?_ | refine blk_alloc ?_ _)); exact BK235.out) hg (Kd.R_ne HO244.out BK235.out (by decide))); have n1_ := Aside0.mk (hb); have n2_ := Aside0.mk (ho); clear BK235; clear HB; clear HO244; have BK235 := n0_; have HB := n1_; have HO247 := n2_; clear n0_ n1_ n2_; clear ho hb hg hat))
                          go_roundg k1
                          case measure => have := HK1.out; omega
                          case rel => exact ⟨(y245), (wrap64 (x7_1 + 1)), (by first | rfl | (simp; done) | (simp [*]; done)), H', ⟨by have := HK1.out; omega⟩, ⟨by (with_reducible repeat (first | apply Kd.R_alloc | apply Kd.R_drewN | apply Kd.R_drew)); exact HO247.out⟩, ⟨by (with_reducible repeat (first | refine blk_drewN ?_ _ | refine blk_drew ?_ | refine blk_alloc ?_ _)); exact BK235.out⟩, ⟨by repeat (first | (with_reducible first | exact HB.out | apply below_alloc | apply pw_below_drewN | apply below_drew1 | refine below_set ?_ GE235.out) | exact HB.out)⟩⟩
                        · rw [if_neg c47] at H
                          exact absurd H (by simp)
                      · rw [if_neg c45] at H
                        exact absurd H (by simp)
                    · rw [if_neg c44] at H
                      have c44b0 : ((bt a0_4 x7_1) == 39) = false := beq_eq_false_iff_ne.mpr c44
                      have c44b1 : ((bt a0_4 x7_1) != 39) = true := bne_iff_ne.mpr c44
                      by_cases c53 : x6_1.length < 140737488355328
                      · rw [if_pos c53] at H
                        have LMc53 := Aside0.mk c53
                        clear c53
                        obtain ⟨y248, hy248⟩ : ∃ y_ : List Int, y_ = (x6_1 ++ [bt a0_4 x7_1]) := ⟨_, rfl⟩
                        replace H : (colonnaderef02_Show.l0 k1 y248 (wrap64 (x7_1 + 1)) a0_0 a0_1 false a0_3 a0_4) = some r := by first | (rw [hy248]; with_reducible exact H) | (have H2_ := (Option.bind_some _ _).symm.trans H; rw [hy248]; with_reducible exact H2_) | (have H2_ := (Option.bind_some _ _).symm.trans H; with_reducible exact H2_) | with_reducible exact H | (rw [hy248]; exact H) | exact H
                        have Ny248 := Aside0.mk hy248
                        clear hy248
                        have H' := Aside0.mk H
                        clear H
                        have hcz54_0 : wr.cell? ⟨gb235, 0, none⟩ = some (.int .i64 a0_0) := (blk_cell BK235.out 0).trans rfl
                        have hcz54_1 : wr.cell? ⟨gb235, 1, none⟩ = some (.int .i64 a0_1) := (blk_cell BK235.out 1).trans rfl
                        have hcz54_2 : wr.cell? ⟨gb235, 2, none⟩ = some (.bool false) := (blk_cell BK235.out 2).trans rfl
                        have hcz54_3 : wr.cell? ⟨gb235, 3, none⟩ = some (.int .i64 a0_3) := (blk_cell BK235.out 3).trans rfl
                        have hcz54_4 : wr.cell? ⟨gb235, 4, none⟩ = some (.string a0_4) := (blk_cell BK235.out 4).trans rfl
                        have hfz54_0 := blk_frozen BK235.out 0
                        have hfz54_1 := blk_frozen BK235.out 1
                        have hfz54_2 := blk_frozen BK235.out 2
                        have hfz54_3 := blk_frozen BK235.out 3
                        have hfz54_4 := blk_frozen BK235.out 4
                        have p43 : 0 ≤ (x7_1 : Int) := of_decide_eq_true (by first | (with_reducible assumption) | assumption)
                        have q43 : x7_1 < (a0_4.size : Int) := of_decide_eq_true (by first | (with_reducible assumption) | assumption)
                        have hx43 := bt_at a0_4 x7_1
                        replace p43 := eq_true p43
                        replace q43 := eq_true q43
                        have p52 : 0 ≤ (x7_1 : Int) := of_decide_eq_true (by first | (with_reducible assumption) | assumption)
                        have q52 : x7_1 < (a0_4.size : Int) := of_decide_eq_true (by first | (with_reducible assumption) | assumption)
                        have hx52 := bt_at a0_4 x7_1
                        replace p52 := eq_true p52
                        replace q52 := eq_true q52
                        go_wp2_with (first | ((with_reducible refine gate_builtin (b := .append) (xs := #[.tmp 59, .tmp 64]) rfl ?_); at_builtin; refine Kd.R_append (Kd.int .u8) (w0 := w) w.heap.size rfl (.tmp 59) (.tmp 64) 61 5 (.int .u8 0) 1 rfl Tryd.underlying61 info5 rfl (by decide) (by omega) u6 x6_1 (bt a0_4 x7_1) [.int .u8 (bt a0_4 x7_1)] (fun _ => True) (fun _ => False) rfl rfl ?aP (fun _ hk => hk.elim) ?aF ?aO ?aB ?aS ?aL ?_; (case aP => exact rfl); (case aB => exact (by repeat (first | (with_reducible first | exact HB.out | apply below_alloc | apply pw_below_drewN | apply below_drew1 | refine below_set ?_ GE235.out) | exact HB.out))); (case aF => exact (fun _ _ => trivial)); (case aO => exact (by (with_reducible repeat (first | apply Kd.R_alloc | apply Kd.R_drewN | apply Kd.R_drew)); exact HO_6.out)); (case aS => exact (below_size (by repeat (first | (with_reducible first | exact HB.out | apply below_alloc | apply pw_below_drewN | apply below_drew1 | refine below_set ?_ GE235.out) | exact HB.out)))); (case aL => have := LMc53.out; omega); intro v249 w55 ho hb hg hat; rw [← Ny248.out] at ho; have n0_ := Aside0.mk (blk_grown (g := gb235) (o := .cells #[.int .i64 a0_0, .int .i64 a0_1, .bool false, .int .i64 a0_3, .string a0_4] 25 (0, 0)) (by (with_reducible repeat (first | refine blk_drewN ?_ _ | refine blk_drew ?_ | refine blk_alloc ?_ _)); exact BK235.out) hg (Kd.R_ne HO_6.out BK235.out (by decide))); have n1_ := Aside0.mk (hb); have n2_ := Aside0.mk (ho); clear BK235; clear HB; clear HO_6; have BK235 := n0_; have HB := n1_; have HO250 := n2_; clear n0_ n1_ n2_; clear ho hb hg hat))
                        go_roundg k1
                        case measure => have := HK1.out; omega
                        case rel => exact ⟨(y248), (wrap64 (x7_1 + 1)), (by first | rfl | (simp; done) | (simp [*]; done)), H', ⟨by have := HK1.out; omega⟩, ⟨by (with_reducible repeat (first | apply Kd.R_alloc | apply Kd.R_drewN | apply Kd.R_drew)); exact HO250.out⟩, ⟨by (with_reducible repeat (first | refine blk_drewN ?_ _ | refine blk_drew ?_ | refine blk_alloc ?_ _)); exact BK235.out⟩, ⟨by repeat (first | (with_reducible first | exact HB.out | apply below_alloc | apply pw_below_drewN | apply below_drew1 | refine below_set ?_ GE235.out) | exact HB.out)⟩⟩
                      · rw [if_neg c53] at H
                        exact absurd H (by simp)
                  · rw [if_neg c42] at H
                    exact absurd H (by simp)
                · rw [if_neg c41] at H
                  have c41b0 : decide (x7_1 < (a0_4.size : Int)) = false := decide_eq_false c41
                  clear c41
                  by_cases c56 : x6_1.length < 140737488355328
                  · rw [if_pos c56] at H
                    have LMc56 := Aside0.mk c56
                    clear c56
                    obtain ⟨y251, hy251⟩ : ∃ y_ : List Int, y_ = (x6_1 ++ [39]) := ⟨_, rfl⟩
                    replace H : (some (strOfNums y251)) = some r := by first | (rw [hy251]; with_reducible exact H) | (have H2_ := (Option.bind_some _ _).symm.trans H; rw [hy251]; with_reducible exact H2_) | (have H2_ := (Option.bind_some _ _).symm.trans H; with_reducible exact H2_) | with_reducible exact H | (rw [hy251]; exact H) | exact H
                    have Ny251 := Aside0.mk hy251
                    clear hy251
                    obtain rfl := Option.some.inj H
                    have hcz57_0 : wr.cell? ⟨gb235, 0, none⟩ = some (.int .i64 a0_0) := (blk_cell BK235.out 0).trans rfl
                    have hcz57_1 : wr.cell? ⟨gb235, 1, none⟩ = some (.int .i64 a0_1) := (blk_cell BK235.out 1).trans rfl
                    have hcz57_2 : wr.cell? ⟨gb235, 2, none⟩ = some (.bool false) := (blk_cell BK235.out 2).trans rfl
                    have hcz57_3 : wr.cell? ⟨gb235, 3, none⟩ = some (.int .i64 a0_3) := (blk_cell BK235.out 3).trans rfl
                    have hcz57_4 : wr.cell? ⟨gb235, 4, none⟩ = some (.string a0_4) := (blk_cell BK235.out 4).trans rfl
                    have hfz57_0 := blk_frozen BK235.out 0
                    have hfz57_1 := blk_frozen BK235.out 1
                    have hfz57_2 := blk_frozen BK235.out 2
                    have hfz57_3 := blk_frozen BK235.out 3
                    have hfz57_4 := blk_frozen BK235.out 4
                    go_wp2_with (first | ((with_reducible refine gate_builtin (b := .append) (xs := #[.tmp 66, .tmp 67]) rfl ?_); at_builtin; refine Kd.R_append (Kd.int .u8) (w0 := w) w.heap.size rfl (.tmp 66) (.tmp 67) 61 5 (.int .u8 0) 1 rfl Tryd.underlying61 info5 rfl (by decide) (by omega) u6 x6_1 39 [.int .u8 39] (fun _ => True) (fun _ => False) rfl rfl ?aP (fun _ hk => hk.elim) ?aF ?aO ?aB ?aS ?aL ?_; (case aP => exact rfl); (case aB => exact (by repeat (first | (with_reducible first | exact HB.out | apply below_alloc | apply pw_below_drewN | apply below_drew1 | refine below_set ?_ GE235.out) | exact HB.out))); (case aF => exact (fun _ _ => trivial)); (case aO => exact (by (with_reducible repeat (first | apply Kd.R_alloc | apply Kd.R_drewN | apply Kd.R_drew)); exact HO_6.out)); (case aS => exact (below_size (by repeat (first | (with_reducible first | exact HB.out | apply below_alloc | apply pw_below_drewN | apply below_drew1 | refine below_set ?_ GE235.out) | exact HB.out)))); (case aL => have := LMc56.out; omega); intro v252 w58 ho hb hg hat; rw [← Ny251.out] at ho; have n0_ := Aside0.mk (blk_grown (g := gb235) (o := .cells #[.int .i64 a0_0, .int .i64 a0_1, .bool false, .int .i64 a0_3, .string a0_4] 25 (0, 0)) (by (with_reducible repeat (first | refine blk_drewN ?_ _ | refine blk_drew ?_ | refine blk_alloc ?_ _)); exact BK235.out) hg (Kd.R_ne HO_6.out BK235.out (by decide))); have n1_ := Aside0.mk (hb); have n2_ := Aside0.mk (ho); clear BK235; clear HB; clear HO_6; have BK235 := n0_; have HB := n1_; have HO253 := n2_; clear n0_ n1_ n2_; clear ho hb hg hat; have hcv59 := own_string (P := Tryd.prog) Tryd.underlying61 Tryd.underlying5 Tryd.underlying9 (Kd.own_of_R HO253.out)))
                    go_ret
                    exact ⟨by first | rfl | (simp [errW_none, errW_some] <;> rfl) | (simp [*, errW_none, errW_some] <;> rfl), by repeat (first | (with_reducible first | exact HB.out | apply below_alloc | apply pw_below_drewN | apply below_drew1 | refine below_set ?_ GE235.out) | exact HB.out)⟩
                  · rw [if_neg c56] at H
                    exact absurd H (by simp)
          · rw [if_neg c34] at H
            have c34b0 : (a0_0 == 4) = false := beq_eq_false_iff_ne.mpr c34
            have c34b1 : (a0_0 != 4) = true := bne_iff_ne.mpr c34
            by_cases c60 : a0_0 = 5
            · rw [if_pos c60] at H
              have c60b0 : (a0_0 == 5) = true := beq_iff_eq.mpr c60
              have c60b1 : (a0_0 != 5) = false := bne_eq_false_iff_eq.mpr c60
              clear c60
              replace H := Option.bind_eq_some_iff.mp H
              obtain ⟨⟨t254, t255⟩, A610, H⟩ := H
              replace H : (if t255 = 0 then (some t254) else (some t236)) = some r := H
              have A61 := Aside0.mk A610
              clear A610
              by_cases c62 : t255 = 0
              · rw [if_pos c62] at H
                have c62b0 : (t255 == 0) = true := beq_iff_eq.mpr c62
                have c62b1 : (t255 != 0) = false := bne_eq_false_iff_eq.mpr c62
                clear c62
                obtain rfl := Option.some.inj H
                go_enter Tryd.func13, Tryd.ntmps13
                go_wp2_with (first | ((with_reducible refine gate_dst (N := 1) rfl ?_); refine box_event ?hg (N := 1) ?hd (cs := #[.int .i64 a0_0, .int .i64 a0_1, .bool false, .int .i64 a0_3, .string a0_4]) (t := 25) ?hr ?_; (case hd => rfl); (case hg => rfl); (case hr => first | (go_simp; done) | (go_simp; rfl)); intro gb235 hg w63 hbox hb; have n0_ := Aside0.mk (below_step (by repeat (first | (with_reducible first | exact HB.out | apply below_alloc | apply pw_below_drewN | apply below_drew1) | exact HB.out)) hb); have n1_ := Aside0.mk (hbox); have n2_ := Aside0.mk ((by rw [hg]; exact (below_size (by repeat (first | (with_reducible first | exact HB.out | apply below_alloc | apply pw_below_drewN | apply below_drew1) | exact HB.out))) : w.heap.size ≤ gb235)); have n3_ := Aside0.mk ((by rw [hg]; exact (below_size (by repeat (first | (with_reducible first | exact HB.out | apply below_alloc | apply pw_below_drewN | apply below_drew1) | exact HB.out))) : w.heap.size ≤ gb235)); clear HB; have HB := n0_; have BK235 := n1_; have GW235 := n2_; have GE235 := n3_; clear n0_ n1_ n2_ n3_; clear hb hbox hg; have hcz64_0 : w63.cell? ⟨gb235, 0, none⟩ = some (.int .i64 a0_0) := (blk_cell BK235.out 0).trans rfl; have hcz64_1 : w63.cell? ⟨gb235, 1, none⟩ = some (.int .i64 a0_1) := (blk_cell BK235.out 1).trans rfl; have hcz64_2 : w63.cell? ⟨gb235, 2, none⟩ = some (.bool false) := (blk_cell BK235.out 2).trans rfl; have hcz64_3 : w63.cell? ⟨gb235, 3, none⟩ = some (.int .i64 a0_3) := (blk_cell BK235.out 3).trans rfl; have hcz64_4 : w63.cell? ⟨gb235, 4, none⟩ = some (.string a0_4) := (blk_cell BK235.out 4).trans rfl; have hfz64_0 := blk_frozen BK235.out 0; have hfz64_1 := blk_frozen BK235.out 1; have hfz64_2 := blk_frozen BK235.out 2; have hfz64_3 := blk_frozen BK235.out 3; have hfz64_4 := blk_frozen BK235.out 4) | ((with_reducible refine gate_callee (f := 50) rfl ?_); refine goesL_ (some 14) rfl rfl Tryd.func50 (by kernel_rfl) rfl #[.int .i64 a0_3] rfl (by (try simp only [List.map_toArray, List.map_cons, List.map_nil]); first | done | rfl | (simp only [List.length_drop, List.length_take]; rfl)) ?_; (with_reducible refine (colonnaderef01_FormatInt.calls k a0_3 t236 _ A5.out).mono ?_); rintro e w65 ⟨rfl, hb⟩; refine ⟨_, rfl, ?_⟩; have n0_ := Aside0.mk (blk_below (g := gb235) (o := .cells #[.int .i64 a0_0, .int .i64 a0_1, .bool false, .int .i64 a0_3, .string a0_4] 25 (0, 0)) (by (with_reducible repeat (first | refine blk_drewN ?_ _ | refine blk_drew ?_ | refine blk_alloc ?_ _)); exact BK235.out) hb); have n1_ := Aside0.mk (below_step (by repeat (first | (with_reducible first | exact HB.out | apply below_alloc | apply pw_below_drewN | apply below_drew1 | refine below_set ?_ GE235.out) | exact HB.out)) hb); clear BK235; clear HB; have BK235 := n0_; have HB := n1_; clear n0_ n1_; (try clear hb); (try clear hb2); (try clear hk); (try clear hi); have hcz66_0 : w65.cell? ⟨gb235, 0, none⟩ = some (.int .i64 a0_0) := (blk_cell BK235.out 0).trans rfl; have hcz66_1 : w65.cell? ⟨gb235, 1, none⟩ = some (.int .i64 a0_1) := (blk_cell BK235.out 1).trans rfl; have hcz66_2 : w65.cell? ⟨gb235, 2, none⟩ = some (.bool false) := (blk_cell BK235.out 2).trans rfl; have hcz66_3 : w65.cell? ⟨gb235, 3, none⟩ = some (.int .i64 a0_3) := (blk_cell BK235.out 3).trans rfl; have hcz66_4 : w65.cell? ⟨gb235, 4, none⟩ = some (.string a0_4) := (blk_cell BK235.out 4).trans rfl; have hfz66_0 := blk_frozen BK235.out 0; have hfz66_1 := blk_frozen BK235.out 1; have hfz66_2 := blk_frozen BK235.out 2; have hfz66_3 := blk_frozen BK235.out 3; have hfz66_4 := blk_frozen BK235.out 4) | ((with_reducible refine gate_callee (f := 52) rfl ?_); refine goesL_ (some 75) rfl rfl Tryd.func52 (by kernel_rfl) rfl #[.int .i64 a0_3] rfl (by (try simp only [List.map_toArray, List.map_cons, List.map_nil]); first | done | rfl | (simp only [List.length_drop, List.length_take]; rfl)) ?_; (with_reducible refine (colonnaderef01_FormatDay.calls k a0_3 t254 t255 _ A61.out).mono ?_); rintro e w67 ⟨rfl, hb⟩; refine ⟨_, rfl, ?_⟩; have n0_ := Aside0.mk (blk_below (g := gb235) (o := .cells #[.int .i64 a0_0, .int .i64 a0_1, .bool false, .int .i64 a0_3, .string a0_4] 25 (0, 0)) (by (with_reducible repeat (first | refine blk_drewN ?_ _ | refine blk_drew ?_ | refine blk_alloc ?_ _)); exact BK235.out) hb); have n1_ := Aside0.mk (below_step (by repeat (first | (with_reducible first | exact HB.out | apply below_alloc | apply pw_below_drewN | apply below_drew1 | refine below_set ?_ GE235.out) | exact HB.out)) hb); clear BK235; clear HB; have BK235 := n0_; have HB := n1_; clear n0_ n1_; (try clear hb); (try clear hb2); (try clear hk); (try clear hi)))
                go_ret
                exact ⟨by first | rfl | (simp [errW_none, errW_some] <;> rfl) | (simp [*, errW_none, errW_some] <;> rfl), by repeat (first | (with_reducible first | exact HB.out | apply below_alloc | apply pw_below_drewN | apply below_drew1 | refine below_set ?_ GE235.out) | exact HB.out)⟩
              · rw [if_neg c62] at H
                have c62b0 : (t255 == 0) = false := beq_eq_false_iff_ne.mpr c62
                have c62b1 : (t255 != 0) = true := bne_iff_ne.mpr c62
                obtain rfl := Option.some.inj H
                go_enter Tryd.func13, Tryd.ntmps13
                go_wp2_with (first | ((with_reducible refine gate_dst (N := 1) rfl ?_); refine box_event ?hg (N := 1) ?hd (cs := #[.int .i64 a0_0, .int .i64 a0_1, .bool false, .int .i64 a0_3, .string a0_4]) (t := 25) ?hr ?_; (case hd => rfl); (case hg => rfl); (case hr => first | (go_simp; done) | (go_simp; rfl)); intro gb235 hg w68 hbox hb; have n0_ := Aside0.mk (below_step (by repeat (first | (with_reducible first | exact HB.out | apply below_alloc | apply pw_below_drewN | apply below_drew1) | exact HB.out)) hb); have n1_ := Aside0.mk (hbox); have n2_ := Aside0.mk ((by rw [hg]; exact (below_size (by repeat (first | (with_reducible first | exact HB.out | apply below_alloc | apply pw_below_drewN | apply below_drew1) | exact HB.out))) : w.heap.size ≤ gb235)); have n3_ := Aside0.mk ((by rw [hg]; exact (below_size (by repeat (first | (with_reducible first | exact HB.out | apply below_alloc | apply pw_below_drewN | apply below_drew1) | exact HB.out))) : w.heap.size ≤ gb235)); clear HB; have HB := n0_; have BK235 := n1_; have GW235 := n2_; have GE235 := n3_; clear n0_ n1_ n2_ n3_; clear hb hbox hg; have hcz69_0 : w68.cell? ⟨gb235, 0, none⟩ = some (.int .i64 a0_0) := (blk_cell BK235.out 0).trans rfl; have hcz69_1 : w68.cell? ⟨gb235, 1, none⟩ = some (.int .i64 a0_1) := (blk_cell BK235.out 1).trans rfl; have hcz69_2 : w68.cell? ⟨gb235, 2, none⟩ = some (.bool false) := (blk_cell BK235.out 2).trans rfl; have hcz69_3 : w68.cell? ⟨gb235, 3, none⟩ = some (.int .i64 a0_3) := (blk_cell BK235.out 3).trans rfl; have hcz69_4 : w68.cell? ⟨gb235, 4, none⟩ = some (.string a0_4) := (blk_cell BK235.out 4).trans rfl; have hfz69_0 := blk_frozen BK235.out 0; have hfz69_1 := blk_frozen BK235.out 1; have hfz69_2 := blk_frozen BK235.out 2; have hfz69_3 := blk_frozen BK235.out 3; have hfz69_4 := blk_frozen BK235.out 4) | ((with_reducible refine gate_callee (f := 50) rfl ?_); refine goesL_ (some 14) rfl rfl Tryd.func50 (by kernel_rfl) rfl #[.int .i64 a0_3] rfl (by (try simp only [List.map_toArray, List.map_cons, List.map_nil]); first | done | rfl | (simp only [List.length_drop, List.length_take]; rfl)) ?_; (with_reducible refine (colonnaderef01_FormatInt.calls k a0_3 t236 _ A5.out).mono ?_); rintro e w70 ⟨rfl, hb⟩; refine ⟨_, rfl, ?_⟩; have n0_ := Aside0.mk (blk_below (g := gb235) (o := .cells #[.int .i64 a0_0, .int .i64 a0_1, .bool false, .int .i64 a0_3, .string a0_4] 25 (0, 0)) (by (with_reducible repeat (first | refine blk_drewN ?_ _ | refine blk_drew ?_ | refine blk_alloc ?_ _)); exact BK235.out) hb); have n1_ := Aside0.mk (below_step (by repeat (first | (with_reducible first | exact HB.out | apply below_alloc | apply pw_below_drewN | apply below_drew1 | refine below_set ?_ GE235.out) | exact HB.out)) hb); clear BK235; clear HB; have BK235 := n0_; have HB := n1_; clear n0_ n1_; (try clear hb); (try clear hb2); (try clear hk); (try clear hi); have hcz71_0 : w70.cell? ⟨gb235, 0, none⟩ = some (.int .i64 a0_0) := (blk_cell BK235.out 0).trans rfl; have hcz71_1 : w70.cell? ⟨gb235, 1, none⟩ = some (.int .i64 a0_1) := (blk_cell BK235.out 1).trans rfl; have hcz71_2 : w70.cell? ⟨gb235, 2, none⟩ = some (.bool false) := (blk_cell BK235.out 2).trans rfl; have hcz71_3 : w70.cell? ⟨gb235, 3, none⟩ = some (.int .i64 a0_3) := (blk_cell BK235.out 3).trans rfl; have hcz71_4 : w70.cell? ⟨gb235, 4, none⟩ = some (.string a0_4) := (blk_cell BK235.out 4).trans rfl; have hfz71_0 := blk_frozen BK235.out 0; have hfz71_1 := blk_frozen BK235.out 1; have hfz71_2 := blk_frozen BK235.out 2; have hfz71_3 := blk_frozen BK235.out 3; have hfz71_4 := blk_frozen BK235.out 4) | ((with_reducible refine gate_callee (f := 52) rfl ?_); refine goesL_ (some 75) rfl rfl Tryd.func52 (by kernel_rfl) rfl #[.int .i64 a0_3] rfl (by (try simp only [List.map_toArray, List.map_cons, List.map_nil]); first | done | rfl | (simp only [List.length_drop, List.length_take]; rfl)) ?_; (with_reducible refine (colonnaderef01_FormatDay.calls k a0_3 t254 t255 _ A61.out).mono ?_); rintro e w72 ⟨rfl, hb⟩; refine ⟨_, rfl, ?_⟩; have n0_ := Aside0.mk (blk_below (g := gb235) (o := .cells #[.int .i64 a0_0, .int .i64 a0_1, .bool false, .int .i64 a0_3, .string a0_4] 25 (0, 0)) (by (with_reducible repeat (first | refine blk_drewN ?_ _ | refine blk_drew ?_ | refine blk_alloc ?_ _)); exact BK235.out) hb); have n1_ := Aside0.mk (below_step (by repeat (first | (with_reducible first | exact HB.out | apply below_alloc | apply pw_below_drewN | apply below_drew1 | refine below_set ?_ GE235.out) | exact HB.out)) hb); clear BK235; clear HB; have BK235 := n0_; have HB := n1_; clear n0_ n1_; (try clear hb); (try clear hb2); (try clear hk); (try clear hi)))
                go_ret
                exact ⟨by first | rfl | (simp [errW_none, errW_some] <;> rfl) | (simp [*, errW_none, errW_some] <;> rfl), by repeat (first | (with_reducible first | exact HB.out | apply below_alloc | apply pw_below_drewN | apply below_drew1 | refine below_set ?_ GE235.out) | exact HB.out)⟩
            · rw [if_neg c60] at H
              have c60b0 : (a0_0 == 5) = false := beq_eq_false_iff_ne.mpr c60
              have c60b1 : (a0_0 != 5) = true := bne_iff_ne.mpr c60
              obtain rfl := Option.some.inj H
              go_enter Tryd.func13, Tryd.ntmps13
              go_wp2_with (first | ((with_reducible refine gate_dst (N := 1) rfl ?_); refine box_event ?hg (N := 1) ?hd (cs := #[.int .i64 a0_0, .int .i64 a0_1, .bool false, .int .i64 a0_3, .string a0_4]) (t := 25) ?hr ?_; (case hd => rfl); (case hg => rfl); (case hr => first | (go_simp; done) | (go_simp; rfl)); intro gb235 hg w73 hbox hb; have n0_ := Aside0.mk (below_step (by repeat (first | (with_reducible first | exact HB.out | apply below_alloc | apply pw_below_drewN | apply below_drew1) | exact HB.out)) hb); have n1_ := Aside0.mk (hbox); have n2_ := Aside0.mk ((by rw [hg]; exact (below_size (by repeat (first | (with_reducible first | exact HB.out | apply below_alloc | apply pw_below_drewN | apply below_drew1) | exact HB.out))) : w.heap.size ≤ gb235)); have n3_ := Aside0.mk ((by rw [hg]; exact (below_size (by repeat (first | (with_reducible first | exact HB.out | apply below_alloc | apply pw_below_drewN | apply below_drew1) | exact HB.out))) : w.heap.size ≤ gb235)); clear HB; have HB := n0_; have BK235 := n1_; have GW235 := n2_; have GE235 := n3_; clear n0_ n1_ n2_ n3_; clear hb hbox hg; have hcz74_0 : w73.cell? ⟨gb235, 0, none⟩ = some (.int .i64 a0_0) := (blk_cell BK235.out 0).trans rfl; have hcz74_1 : w73.cell? ⟨gb235, 1, none⟩ = some (.int .i64 a0_1) := (blk_cell BK235.out 1).trans rfl; have hcz74_2 : w73.cell? ⟨gb235, 2, none⟩ = some (.bool false) := (blk_cell BK235.out 2).trans rfl; have hcz74_3 : w73.cell? ⟨gb235, 3, none⟩ = some (.int .i64 a0_3) := (blk_cell BK235.out 3).trans rfl; have hcz74_4 : w73.cell? ⟨gb235, 4, none⟩ = some (.string a0_4) := (blk_cell BK235.out 4).trans rfl; have hfz74_0 := blk_frozen BK235.out 0; have hfz74_1 := blk_frozen BK235.out 1; have hfz74_2 := blk_frozen BK235.out 2; have hfz74_3 := blk_frozen BK235.out 3; have hfz74_4 := blk_frozen BK235.out 4) | ((with_reducible refine gate_callee (f := 50) rfl ?_); refine goesL_ (some 14) rfl rfl Tryd.func50 (by kernel_rfl) rfl #[.int .i64 a0_3] rfl (by (try simp only [List.map_toArray, List.map_cons, List.map_nil]); first | done | rfl | (simp only [List.length_drop, List.length_take]; rfl)) ?_; (with_reducible refine (colonnaderef01_FormatInt.calls k a0_3 t236 _ A5.out).mono ?_); rintro e w75 ⟨rfl, hb⟩; refine ⟨_, rfl, ?_⟩; have n0_ := Aside0.mk (blk_below (g := gb235) (o := .cells #[.int .i64 a0_0, .int .i64 a0_1, .bool false, .int .i64 a0_3, .string a0_4] 25 (0, 0)) (by (with_reducible repeat (first | refine blk_drewN ?_ _ | refine blk_drew ?_ | refine blk_alloc ?_ _)); exact BK235.out) hb); have n1_ := Aside0.mk (below_step (by repeat (first | (with_reducible first | exact HB.out | apply below_alloc | apply pw_below_drewN | apply below_drew1 | refine below_set ?_ GE235.out) | exact HB.out)) hb); clear BK235; clear HB; have BK235 := n0_; have HB := n1_; clear n0_ n1_; (try clear hb); (try clear hb2); (try clear hk); (try clear hi); have hcz76_0 : w75.cell? ⟨gb235, 0, none⟩ = some (.int .i64 a0_0) := (blk_cell BK235.out 0).trans rfl; have hcz76_1 : w75.cell? ⟨gb235, 1, none⟩ = some (.int .i64 a0_1) := (blk_cell BK235.out 1).trans rfl; have hcz76_2 : w75.cell? ⟨gb235, 2, none⟩ = some (.bool false) := (blk_cell BK235.out 2).trans rfl; have hcz76_3 : w75.cell? ⟨gb235, 3, none⟩ = some (.int .i64 a0_3) := (blk_cell BK235.out 3).trans rfl; have hcz76_4 : w75.cell? ⟨gb235, 4, none⟩ = some (.string a0_4) := (blk_cell BK235.out 4).trans rfl; have hfz76_0 := blk_frozen BK235.out 0; have hfz76_1 := blk_frozen BK235.out 1; have hfz76_2 := blk_frozen BK235.out 2; have hfz76_3 := blk_frozen BK235.out 3; have hfz76_4 := blk_frozen BK235.out 4))
              go_ret
              exact ⟨by first | rfl | (simp [errW_none, errW_some] <;> rfl) | (simp [*, errW_none, errW_some] <;> rfl), by repeat (first | (with_reducible first | exact HB.out | apply below_alloc | apply pw_below_drewN | apply below_drew1 | refine below_set ?_ GE235.out) | exact HB.out)⟩

/-! ### value_scaled: function 54 -/
def value_scaled.f (a0 : Int) : Option (Bool) := if a0 ≥ 0 then (some (decide (a0 ≤ 18))) else (some false)
set_option maxHeartbeats 8000000 in
set_option maxRecDepth 100000 in
theorem value_scaled.calls (a0 : Int) (r : Bool) (w : World) (h : value_scaled.f a0 = some r) :
    Calls Tryd.prog 54 #[.int .i64 a0] w fun e w' => e = .returned (.bool r) ∧ Drawn0 w w' := by
  have H : (if a0 ≥ 0 then (some (decide (a0 ≤ 18))) else (some false)) = some r := h
  clear h
  by_cases c2 : a0 ≥ 0
  · rw [if_pos c2] at H
    have c2b0 : decide (0 ≤ a0) = true := decide_eq_true c2
    clear c2
    obtain rfl := Option.some.inj H
    go_enter Tryd.func54, Tryd.ntmps54
    go_wp2
    go_ret
    exact ⟨by first | rfl | (simp; done) | (simp [*]; done), by repeat (first | exact Drawn0.refl _ | apply Drawn0.step)⟩
  · rw [if_neg c2] at H
    have c2b0 : decide (0 ≤ a0) = false := decide_eq_false c2
    clear c2
    obtain rfl := Option.some.inj H
    go_enter Tryd.func54, Tryd.ntmps54
    go_wp2
    go_ret
    exact ⟨by first | rfl | (simp; done) | (simp [*]; done), by repeat (first | exact Drawn0.refl _ | apply Drawn0.step)⟩

/-! ### value_Key: function 14, by hand -/
/-- one value's part -/
def value_Key.sc (n : Int) : Int := if 0 ≤ n ∧ n ≤ 18 then n else 99
def value_Key.one (v : S25) : List UInt8 := Lib.itoa v.f0.f0 ++ ((if v.f0.f0 = 3 then Lib.itoa (value_Key.sc v.f0.f1 / 10) ++ Lib.itoa (value_Key.sc v.f0.f1 % 10) else []) ++ (if v.f1 = true then [110] else if v.f0.f0 = 4 then 118 :: (Lib.itoa (v.f3.size : Int) ++ 58 :: v.f3.data.toList) else 118 :: (Lib.itoa v.f2 ++ [59])))
def value_Key.all (l : List S25) : List UInt8 := l.flatMap value_Key.one
def value_Key.ok (v : S25) : Bool := decide (-9223372036854775808 ≤ v.f0.f0) && decide (v.f0.f0 ≤ 9223372036854775807) && decide (-9223372036854775808 ≤ v.f2) && decide (v.f2 ≤ 9223372036854775807) && decide (v.f3.size ≤ 140737488351232)
def value_Key.f (l : List S25) : Option ByteArray := if l.all value_Key.ok = true ∧ (value_Key.all l).length ≤ 140737488355328 then some ⟨(value_Key.all l).toArray⟩ else none
/-- the state within a round: what the builder holds, and the value's own cells -/
structure value_Key.St (w : World) (gb : Nat) (v : S25) (acc : List UInt8) (W : World) : Prop where
  holds : Builder.Holds w.heap.size w.heap.size (Lib.byteCells acc) W
  below : Below w.heap.size w W
  gl : Gl w
  cell : W.heap[gb]? = some (.cells #[.int .i64 v.f0.f0, .int .i64 v.f0.f1, .bool v.f1, .int .i64 v.f2, .string v.f3] 25 (0, 0))
  far : gb ≠ w.heap.size
theorem value_Key.holds_of {B b : Nat} {l : List Value} {W W' : World} (h : Builder.Holds B b l W) (hb : Below W.heap.size W W') : Builder.Holds B b l W' := by
  have go : ∀ p, Lib.BuilderAt 64 5 B b p l W → Lib.BuilderAt 64 5 B b p l W' := by
    rintro p ⟨hB, v, hk, hown, hne⟩
    refine ⟨hB, v, (hb.block b (Array.getElem?_eq_some_iff.1 hk).1).trans hk, ?_, hne⟩
    exact hown.kept (row := none) ⟨hb.os, hb.tape, hb.output, hb.size, fun k hk _ => hb.block k hk⟩ (by cases hv : v.ownBlock <;> simp)
  exact h.imp (go _) (go _)
theorem value_Key.St.of_below {w : World} {gb : Nat} {v : S25} {acc : List UInt8} {W W' : World} (h : value_Key.St w gb v acc W) (hb : Below W.heap.size W W') : value_Key.St w gb v acc W' :=
  ⟨value_Key.holds_of h.holds hb, h.below.trans (hb.mono h.below.size), h.gl, (hb.block gb (Array.getElem?_eq_some_iff.1 h.cell).1).trans h.cell, h.far⟩
theorem value_Key.St.fmt {w : World} {gb : Nat} {v : S25} {acc : List UInt8} {W : World} (h : value_Key.St w gb v acc W) (n : Int) (h1 : -9223372036854775808 ≤ n) (h2 : n ≤ 9223372036854775807) :
    Calls Tryd.prog 46 #[.int .i64 n] W fun e w' => e = .returned (.string ⟨(Lib.itoa n).toArray⟩) ∧ value_Key.St w gb v acc w' :=
  (num_FormatInt.calls n ⟨(Lib.itoa n).toArray⟩ W (by unfold num_FormatInt.f; rw [if_pos h1, if_pos h2]) (Gl.of h.gl h.below)).mono (by
    rintro e w' ⟨rfl, hb⟩
    exact ⟨rfl, h.of_below hb⟩)
theorem value_Key.St.write {w : World} {gb : Nat} {v : S25} {acc : List UInt8} {W : World} (h : value_Key.St w gb v acc W) (s : ByteArray) (hl : acc.length + s.size ≤ 140737488355328) :
    Calls Tryd.prog 53 #[.pointer (some ⟨w.heap.size, 0, none⟩), .string s] W fun e w' => e = .returned (.tuple #[.int .i64 s.size, .nilIface]) ∧ value_Key.St w gb v (acc ++ s.data.toList) w' :=
  (Builder.writeString w.heap.size w.heap.size (Lib.byteCells acc) s W h.holds (by rw [Lib.byteCells_length]; exact hl) h.below.size).mono (by
    rintro e w' ⟨rfl, hh, hb, ha⟩
    refine ⟨rfl, ?_, h.below.trans hb, h.gl, ha gb _ _ h.far (by decide) h.cell, h.far⟩
    rw [Lib.byteCells_append]
    exact hh)
theorem value_Key.St.start {w : World} {v : S25} {acc : List UInt8} {W : World} (h : Builder.Holds w.heap.size w.heap.size (Lib.byteCells acc) W) (hb : Below w.heap.size w W) (hG : Gl w) :
    value_Key.St w W.heap.size v acc (W.alloc (.cells #[.int .i64 v.f0.f0, .int .i64 v.f0.f1, .bool v.f1, .int .i64 v.f2, .string v.f3] 25)) := by
  have hlt : w.heap.size < W.heap.size := by
    rcases h with ⟨_, _, hk, _⟩ | ⟨_, _, hk, _⟩ <;> exact (Array.getElem?_eq_some_iff.1 hk).1
  have hn : Below W.heap.size W (W.alloc (.cells #[.int .i64 v.f0.f0, .int .i64 v.f0.f1, .bool v.f1, .int .i64 v.f2, .string v.f3] 25)) := (Below.refl _ W).alloc (Nat.le_refl _) _
  exact ⟨value_Key.holds_of h hn, hb.trans (hn.mono hb.size), hG, by first | exact heap_alloc_new W _ | exact Lib.heap_alloc_new W _, Nat.ne_of_gt hlt⟩
theorem value_Key.St.scaled {w : World} {gb : Nat} {v : S25} {acc : List UInt8} {W : World} (h : value_Key.St w gb v acc W) (n : Int) (b : Bool) (hb : value_scaled.f n = some b) :
    Calls Tryd.prog 54 #[.int .i64 n] W fun e w' => e = .returned (.bool b) ∧ value_Key.St w gb v acc w' :=
  (value_scaled.calls n b W hb).mono (by
    rintro e w' ⟨rfl, hd⟩
    exact ⟨rfl, h.of_below hd.below⟩)
theorem value_Key.St.c {w : World} {gb : Nat} {v : S25} {acc : List UInt8} {W : World} (h : value_Key.St w gb v acc W) : W.cell? ⟨gb, 0, none⟩ = some (.int .i64 v.f0.f0) ∧ W.cell? ⟨gb, 1, none⟩ = some (.int .i64 v.f0.f1) ∧ W.cell? ⟨gb, 2, none⟩ = some (.bool v.f1) ∧ W.cell? ⟨gb, 3, none⟩ = some (.int .i64 v.f2) ∧ W.cell? ⟨gb, 4, none⟩ = some (.string v.f3) := by
  have hh := h.cell
  refine ⟨?_, ?_, ?_, ?_, ?_⟩ <;> simp [World.cell?, hh]
theorem value_Key.take_succ (l : List S25) (j : Nat) (h : j < l.length) : value_Key.all (l.take (j + 1)) = value_Key.all (l.take j) ++ value_Key.one (rd_T25 l (j : Int)) := by
  unfold value_Key.all rd_T25
  rw [List.take_succ_eq_append_getElem h, List.flatMap_append, Int.toNat_natCast, List.getD_eq_getElem?_getD, List.getElem?_eq_getElem h]
  simp
theorem value_Key.all_le (l : List S25) (j : Nat) (h : j < l.length) : (value_Key.all (l.take j)).length + (value_Key.one (rd_T25 l (j : Int))).length ≤ (value_Key.all l).length := by
  have e : value_Key.all l = value_Key.all (l.take (j + 1)) ++ value_Key.all (l.drop (j + 1)) := by
    unfold value_Key.all
    rw [← List.flatMap_append, List.take_append_drop]
  rw [e, value_Key.take_succ l j h, List.length_append, List.length_append]
  omega
theorem value_Key.ok_at (l : List S25) (j : Nat) (h : j < l.length) (hk : l.all value_Key.ok = true) : value_Key.ok (rd_T25 l (j : Int)) = true := by
  unfold rd_T25
  rw [Int.toNat_natCast, List.getD_eq_getElem?_getD, List.getElem?_eq_getElem h]
  exact List.all_eq_true.1 hk _ (List.getElem_mem h)
set_option maxHeartbeats 16000000 in
set_option maxRecDepth 100000 in
theorem value_Key.calls (A0 : Option Addr) (c0 : Nat) (l0 : List S25) (r : ByteArray) (w : World) (hr0 : Kd.C k25 w A0 l0.length l0) (hc0 : l0.length ≤ c0) (h : value_Key.f l0 = some r) (hG : Gl w) :
    Calls Tryd.prog 14 #[.slice A0 l0.length c0] w fun e w' => e = .returned (.string r) ∧ Below w.heap.size w w' := by
  unfold value_Key.f at h
  by_cases hs : l0.all value_Key.ok = true ∧ (value_Key.all l0).length ≤ 140737488355328
  · rw [if_pos hs] at h
    obtain rfl := Option.some.inj h
    clear h
    have HOK := Aside0.mk hs
    have HG := Aside0.mk hG
    have HR0 := Aside0.mk hr0
    have hlen : l0.length ≤ 9223372036854775807 := hr0.2.1
    have HB := Aside0.mk (Lib.fresh_isBuilder 64 5 w)
    clear hs hG hr0
    go_enter Tryd.func14, Tryd.ntmps14
    go_wp2
    go_loopg [9] l0.length (fun kq v9 wr => ∃ (j : Nat), v9 = .int .i64 (j : Int) ∧ Aside0 (j + kq = l0.length) ∧ Aside0 (Builder.Holds w.heap.size w.heap.size (Lib.byteCells (value_Key.all (l0.take j))) wr) ∧ Aside0 (Below w.heap.size w wr))
    case atStart => exact ⟨0, rfl, ⟨by omega⟩, HB, ⟨by first | exact Below.alloc_self _ _ | exact Below.alloc (Below.refl _ _) (Nat.le_refl _) _ | exact (Below.refl _ _).alloc (Nat.le_refl _) _⟩⟩
    case round =>
      clear HB
      obtain ⟨j, rfl, HJ, HH, HW⟩ := hrel
      cases gk with
      | zero =>
        have hj : j = l0.length := by have := HJ.out; omega
        subst hj
        have c1 : decide ((l0.length : Int) < (l0.length : Int)) = false := decide_eq_false (by omega)
        go_wp2_with (go_at_call 55; (with_reducible refine (Tryd.Builder_String_any w.heap.size w.heap.size (value_Key.all (l0.take l0.length)) _ HH.out (by have := HW.out.size; omega)).mono ?_))
        rintro e' w' ⟨rfl, hb⟩
        go_wp2
        go_ret
        exact ⟨by first | rfl | rw [List.take_length], HW.out.trans hb⟩
      | succ k1 =>
        have hlt : j < l0.length := by have := HJ.out; omega
        have c1 : decide ((j : Int) < (l0.length : Int)) = true := decide_eq_true (by omega)
        have hC := Kd.C_below HR0.out HW.out
        obtain ⟨ad, rfl, hx0, hx1, hx2, hx3, hx4⟩ := at_T25 hC (j : Int) (by omega) (by omega)
        simp only [Int.toNat_natCast] at hx0 hx1 hx2 hx3 hx4
        have hok := value_Key.ok_at l0 j hlt HOK.out.1
        have hle := Nat.le_trans (value_Key.all_le l0 j hlt) HOK.out.2
        have hts := value_Key.take_succ l0 j hlt
        obtain ⟨v, hv⟩ : ∃ v, rd_T25 l0 (j : Int) = v := ⟨_, rfl⟩
        rw [hv] at hx0 hx1 hx2 hx3 hx4 hok hle hts
        clear hv
        simp only [value_Key.ok, Bool.and_eq_true, decide_eq_true_eq] at hok
        obtain ⟨⟨⟨⟨k1', k2'⟩, n1'⟩, n2'⟩, s1'⟩ := hok
        obtain ⟨acc, hacc⟩ : ∃ acc, value_Key.all (l0.take j) = acc := ⟨_, rfl⟩
        rw [hacc] at HH hle hts
        clear hacc
        have HT := Aside0.mk hts
        have HLE := Aside0.mk hle
        clear hts hle hC
        obtain ⟨⟨kd, sc⟩, nu, n, s⟩ := v
        simp only at hx0 hx1 hx2 hx3 hx4 k1' k2' n1' n2' s1'
        have HS := Aside0.mk (value_Key.St.start (v := ⟨⟨kd, sc⟩, nu, n, s⟩) HH.out HW.out HG.out)
        clear HH HW HG
        have hik := Lib.itoa_length_le kd k1' k2'
        have hin := Lib.itoa_length_le n n1' n2'
        have his := Lib.itoa_length_le (s.size : Int) (by omega) (by omega)
        by_cases d : kd = 3
        · by_cases q : 0 ≤ sc ∧ sc ≤ 18
          · cases nu with
            | true =>
              subst d
              have h1 : value_Key.one ⟨⟨3, sc⟩, true, n, s⟩ = Lib.itoa 3 ++ ((Lib.itoa (sc / 10) ++ Lib.itoa (sc % 10)) ++ ([110])) := by simp [value_Key.one, value_Key.sc, q]
              have hl_ := HLE.out
              have ht_ := HT.out
              rw [h1] at hl_ ht_
              have HL := Aside0.mk hl_
              have HT1 := Aside0.mk ht_
              clear hl_ ht_ h1
              go_wp2_with (go_at_call 46; (with_reducible refine (value_Key.St.fmt HS.out 3 (by omega) (by omega)).mono ?_); rintro e w1 ⟨rfl, hs⟩; have n0_ := Aside0.mk hs; clear HS; have HS := n0_; clear n0_ hs; have hc1 := value_Key.St.c HS.out; obtain ⟨hcz1_0, hcz1_1, hcz1_2, hcz1_3, hcz1_4⟩ := hc1; (try simp only [] at hcz1_0))
              go_wp2_with (go_at_call 53; (with_reducible refine (value_Key.St.write HS.out _ (by have := HL.out; first | (simp [ByteArray.size_append, size_lit] at this ⊢; omega) | (simp [ByteArray.size_append, size_lit, ByteArray.size] at this ⊢; omega))).mono ?_); rintro e w2 ⟨rfl, hs⟩; have n0_ := Aside0.mk hs; clear HS; have HS := n0_; clear n0_ hs; have hc2 := value_Key.St.c HS.out; obtain ⟨hcz2_0, hcz2_1, hcz2_2, hcz2_3, hcz2_4⟩ := hc2; (try simp only [] at hcz2_0))
              go_wp2_with (go_at_call 54; (with_reducible refine (value_Key.St.scaled HS.out sc true (by unfold value_scaled.f; split <;> simp <;> omega)).mono ?_); rintro e w3 ⟨rfl, hs⟩; have n0_ := Aside0.mk hs; clear HS; have HS := n0_; clear n0_ hs; have hc3 := value_Key.St.c HS.out; obtain ⟨hcz3_0, hcz3_1, hcz3_2, hcz3_3, hcz3_4⟩ := hc3; (try simp only [] at hcz3_0))
              go_wp2_with (go_at_call 46; (with_reducible refine (value_Key.St.fmt HS.out _ (by omega) (by omega)).mono ?_); rintro e w4 ⟨rfl, hs⟩; have n0_ := Aside0.mk hs; clear HS; have HS := n0_; clear n0_ hs; have hc4 := value_Key.St.c HS.out; obtain ⟨hcz4_0, hcz4_1, hcz4_2, hcz4_3, hcz4_4⟩ := hc4; (try simp only [] at hcz4_0))
              go_wp2_with (go_at_call 53; (with_reducible refine (value_Key.St.write HS.out _ (by have := HL.out; first | (simp [ByteArray.size_append, size_lit] at this ⊢; omega) | (simp [ByteArray.size_append, size_lit, ByteArray.size] at this ⊢; omega))).mono ?_); rintro e w5 ⟨rfl, hs⟩; have n0_ := Aside0.mk hs; clear HS; have HS := n0_; clear n0_ hs; have hc5 := value_Key.St.c HS.out; obtain ⟨hcz5_0, hcz5_1, hcz5_2, hcz5_3, hcz5_4⟩ := hc5; (try simp only [] at hcz5_0))
              go_wp2_with (go_at_call 46; (with_reducible refine (value_Key.St.fmt HS.out _ (by omega) (by omega)).mono ?_); rintro e w6 ⟨rfl, hs⟩; have n0_ := Aside0.mk hs; clear HS; have HS := n0_; clear n0_ hs; have hc6 := value_Key.St.c HS.out; obtain ⟨hcz6_0, hcz6_1, hcz6_2, hcz6_3, hcz6_4⟩ := hc6; (try simp only [] at hcz6_0))
              go_wp2_with (go_at_call 53; (with_reducible refine (value_Key.St.write HS.out _ (by have := HL.out; first | (simp [ByteArray.size_append, size_lit] at this ⊢; omega) | (simp [ByteArray.size_append, size_lit, ByteArray.size] at this ⊢; omega))).mono ?_); rintro e w7 ⟨rfl, hs⟩; have n0_ := Aside0.mk hs; clear HS; have HS := n0_; clear n0_ hs; have hc7 := value_Key.St.c HS.out; obtain ⟨hcz7_0, hcz7_1, hcz7_2, hcz7_3, hcz7_4⟩ := hc7; (try simp only [] at hcz7_0))
              go_wp2_with (go_at_call 53; (with_reducible refine (value_Key.St.write HS.out _ (by have := HL.out; first | (simp [ByteArray.size_append, size_lit] at this ⊢; omega) | (simp [ByteArray.size_append, size_lit, ByteArray.size] at this ⊢; omega))).mono ?_); rintro e w8 ⟨rfl, hs⟩; have n0_ := Aside0.mk hs; clear HS; have HS := n0_; clear n0_ hs; have hc8 := value_Key.St.c HS.out; obtain ⟨hcz8_0, hcz8_1, hcz8_2, hcz8_3, hcz8_4⟩ := hc8; (try simp only [] at hcz8_0))
              go_wp2
              go_roundg k1
              case measure => omega
              case rel =>
                refine ⟨j + 1, (by first | rfl | (simp; done)), ⟨by have := HJ.out; omega⟩, ⟨?_⟩, ⟨HS.out.below⟩⟩
                have hf := HS.out.holds
                rw [HT1.out]
                simpa [List.append_assoc] using hf
            | false =>
              subst d
              have h1 : value_Key.one ⟨⟨3, sc⟩, false, n, s⟩ = Lib.itoa 3 ++ ((Lib.itoa (sc / 10) ++ Lib.itoa (sc % 10)) ++ (118 :: (Lib.itoa n ++ [59]))) := by simp [value_Key.one, value_Key.sc, q]
              have hl_ := HLE.out
              have ht_ := HT.out
              rw [h1] at hl_ ht_
              have HL := Aside0.mk hl_
              have HT1 := Aside0.mk ht_
              clear hl_ ht_ h1
              go_wp2_with (go_at_call 46; (with_reducible refine (value_Key.St.fmt HS.out 3 (by omega) (by omega)).mono ?_); rintro e w1 ⟨rfl, hs⟩; have n0_ := Aside0.mk hs; clear HS; have HS := n0_; clear n0_ hs; have hc1 := value_Key.St.c HS.out; obtain ⟨hcz1_0, hcz1_1, hcz1_2, hcz1_3, hcz1_4⟩ := hc1; (try simp only [] at hcz1_0))
              go_wp2_with (go_at_call 53; (with_reducible refine (value_Key.St.write HS.out _ (by have := HL.out; first | (simp [ByteArray.size_append, size_lit] at this ⊢; omega) | (simp [ByteArray.size_append, size_lit, ByteArray.size] at this ⊢; omega))).mono ?_); rintro e w2 ⟨rfl, hs⟩; have n0_ := Aside0.mk hs; clear HS; have HS := n0_; clear n0_ hs; have hc2 := value_Key.St.c HS.out; obtain ⟨hcz2_0, hcz2_1, hcz2_2, hcz2_3, hcz2_4⟩ := hc2; (try simp only [] at hcz2_0))
              go_wp2_with (go_at_call 54; (with_reducible refine (value_Key.St.scaled HS.out sc true (by unfold value_scaled.f; split <;> simp <;> omega)).mono ?_); rintro e w3 ⟨rfl, hs⟩; have n0_ := Aside0.mk hs; clear HS; have HS := n0_; clear n0_ hs; have hc3 := value_Key.St.c HS.out; obtain ⟨hcz3_0, hcz3_1, hcz3_2, hcz3_3, hcz3_4⟩ := hc3; (try simp only [] at hcz3_0))
              go_wp2_with (go_at_call 46; (with_reducible refine (value_Key.St.fmt HS.out _ (by omega) (by omega)).mono ?_); rintro e w4 ⟨rfl, hs⟩; have n0_ := Aside0.mk hs; clear HS; have HS := n0_; clear n0_ hs; have hc4 := value_Key.St.c HS.out; obtain ⟨hcz4_0, hcz4_1, hcz4_2, hcz4_3, hcz4_4⟩ := hc4; (try simp only [] at hcz4_0))
              go_wp2_with (go_at_call 53; (with_reducible refine (value_Key.St.write HS.out _ (by have := HL.out; first | (simp [ByteArray.size_append, size_lit] at this ⊢; omega) | (simp [ByteArray.size_append, size_lit, ByteArray.size] at this ⊢; omega))).mono ?_); rintro e w5 ⟨rfl, hs⟩; have n0_ := Aside0.mk hs; clear HS; have HS := n0_; clear n0_ hs; have hc5 := value_Key.St.c HS.out; obtain ⟨hcz5_0, hcz5_1, hcz5_2, hcz5_3, hcz5_4⟩ := hc5; (try simp only [] at hcz5_0))
              go_wp2_with (go_at_call 46; (with_reducible refine (value_Key.St.fmt HS.out _ (by omega) (by omega)).mono ?_); rintro e w6 ⟨rfl, hs⟩; have n0_ := Aside0.mk hs; clear HS; have HS := n0_; clear n0_ hs; have hc6 := value_Key.St.c HS.out; obtain ⟨hcz6_0, hcz6_1, hcz6_2, hcz6_3, hcz6_4⟩ := hc6; (try simp only [] at hcz6_0))
              go_wp2_with (go_at_call 53; (with_reducible refine (value_Key.St.write HS.out _ (by have := HL.out; first | (simp [ByteArray.size_append, size_lit] at this ⊢; omega) | (simp [ByteArray.size_append, size_lit, ByteArray.size] at this ⊢; omega))).mono ?_); rintro e w7 ⟨rfl, hs⟩; have n0_ := Aside0.mk hs; clear HS; have HS := n0_; clear n0_ hs; have hc7 := value_Key.St.c HS.out; obtain ⟨hcz7_0, hcz7_1, hcz7_2, hcz7_3, hcz7_4⟩ := hc7; (try simp only [] at hcz7_0))
              go_wp2_with (go_at_call 46; (with_reducible refine (value_Key.St.fmt HS.out n n1' n2').mono ?_); rintro e w8 ⟨rfl, hs⟩; have n0_ := Aside0.mk hs; clear HS; have HS := n0_; clear n0_ hs; have hc8 := value_Key.St.c HS.out; obtain ⟨hcz8_0, hcz8_1, hcz8_2, hcz8_3, hcz8_4⟩ := hc8; (try simp only [] at hcz8_0))
              go_wp2_with (go_at_call 53; (with_reducible refine (value_Key.St.write HS.out _ (by have := HL.out; first | (simp [ByteArray.size_append, size_lit] at this ⊢; omega) | (simp [ByteArray.size_append, size_lit, ByteArray.size] at this ⊢; omega))).mono ?_); rintro e w9 ⟨rfl, hs⟩; have n0_ := Aside0.mk hs; clear HS; have HS := n0_; clear n0_ hs; have hc9 := value_Key.St.c HS.out; obtain ⟨hcz9_0, hcz9_1, hcz9_2, hcz9_3, hcz9_4⟩ := hc9; (try simp only [] at hcz9_0))
              go_wp2
              go_roundg k1
              case measure => omega
              case rel =>
                refine ⟨j + 1, (by first | rfl | (simp; done)), ⟨by have := HJ.out; omega⟩, ⟨?_⟩, ⟨HS.out.below⟩⟩
                have hf := HS.out.holds
                rw [HT1.out]
                simpa [List.append_assoc] using hf
          · cases nu with
            | true =>
              subst d
              have h1 : value_Key.one ⟨⟨3, sc⟩, true, n, s⟩ = Lib.itoa 3 ++ ((Lib.itoa (99 / 10) ++ Lib.itoa (99 % 10)) ++ ([110])) := by simp [value_Key.one, value_Key.sc, q]
              have hl_ := HLE.out
              have ht_ := HT.out
              rw [h1] at hl_ ht_
              have HL := Aside0.mk hl_
              have HT1 := Aside0.mk ht_
              clear hl_ ht_ h1
              go_wp2_with (go_at_call 46; (with_reducible refine (value_Key.St.fmt HS.out 3 (by omega) (by omega)).mono ?_); rintro e w1 ⟨rfl, hs⟩; have n0_ := Aside0.mk hs; clear HS; have HS := n0_; clear n0_ hs; have hc1 := value_Key.St.c HS.out; obtain ⟨hcz1_0, hcz1_1, hcz1_2, hcz1_3, hcz1_4⟩ := hc1; (try simp only [] at hcz1_0))
              go_wp2_with (go_at_call 53; (with_reducible refine (value_Key.St.write HS.out _ (by have := HL.out; first | (simp [ByteArray.size_append, size_lit] at this ⊢; omega) | (simp [ByteArray.size_append, size_lit, ByteArray.size] at this ⊢; omega))).mono ?_); rintro e w2 ⟨rfl, hs⟩; have n0_ := Aside0.mk hs; clear HS; have HS := n0_; clear n0_ hs; have hc2 := value_Key.St.c HS.out; obtain ⟨hcz2_0, hcz2_1, hcz2_2, hcz2_3, hcz2_4⟩ := hc2; (try simp only [] at hcz2_0))
              go_wp2_with (go_at_call 54; (with_reducible refine (value_Key.St.scaled HS.out sc false (by unfold value_scaled.f; split <;> simp <;> omega)).mono ?_); rintro e w3 ⟨rfl, hs⟩; have n0_ := Aside0.mk hs; clear HS; have HS := n0_; clear n0_ hs; have hc3 := value_Key.St.c HS.out; obtain ⟨hcz3_0, hcz3_1, hcz3_2, hcz3_3, hcz3_4⟩ := hc3; (try simp only [] at hcz3_0))
              go_wp2_with (go_at_call 46; (with_reducible refine (value_Key.St.fmt HS.out _ (by omega) (by omega)).mono ?_); rintro e w4 ⟨rfl, hs⟩; have n0_ := Aside0.mk hs; clear HS; have HS := n0_; clear n0_ hs; have hc4 := value_Key.St.c HS.out; obtain ⟨hcz4_0, hcz4_1, hcz4_2, hcz4_3, hcz4_4⟩ := hc4; (try simp only [] at hcz4_0))
              go_wp2_with (go_at_call 53; (with_reducible refine (value_Key.St.write HS.out _ (by have := HL.out; first | (simp [ByteArray.size_append, size_lit] at this ⊢; omega) | (simp [ByteArray.size_append, size_lit, ByteArray.size] at this ⊢; omega))).mono ?_); rintro e w5 ⟨rfl, hs⟩; have n0_ := Aside0.mk hs; clear HS; have HS := n0_; clear n0_ hs; have hc5 := value_Key.St.c HS.out; obtain ⟨hcz5_0, hcz5_1, hcz5_2, hcz5_3, hcz5_4⟩ := hc5; (try simp only [] at hcz5_0))
              go_wp2_with (go_at_call 46; (with_reducible refine (value_Key.St.fmt HS.out _ (by omega) (by omega)).mono ?_); rintro e w6 ⟨rfl, hs⟩; have n0_ := Aside0.mk hs; clear HS; have HS := n0_; clear n0_ hs; have hc6 := value_Key.St.c HS.out; obtain ⟨hcz6_0, hcz6_1, hcz6_2, hcz6_3, hcz6_4⟩ := hc6; (try simp only [] at hcz6_0))
              go_wp2_with (go_at_call 53; (with_reducible refine (value_Key.St.write HS.out _ (by have := HL.out; first | (simp [ByteArray.size_append, size_lit] at this ⊢; omega) | (simp [ByteArray.size_append, size_lit, ByteArray.size] at this ⊢; omega))).mono ?_); rintro e w7 ⟨rfl, hs⟩; have n0_ := Aside0.mk hs; clear HS; have HS := n0_; clear n0_ hs; have hc7 := value_Key.St.c HS.out; obtain ⟨hcz7_0, hcz7_1, hcz7_2, hcz7_3, hcz7_4⟩ := hc7; (try simp only [] at hcz7_0))
              go_wp2_with (go_at_call 53; (with_reducible refine (value_Key.St.write HS.out _ (by have := HL.out; first | (simp [ByteArray.size_append, size_lit] at this ⊢; omega) | (simp [ByteArray.size_append, size_lit, ByteArray.size] at this ⊢; omega))).mono ?_); rintro e w8 ⟨rfl, hs⟩; have n0_ := Aside0.mk hs; clear HS; have HS := n0_; clear n0_ hs; have hc8 := value_Key.St.c HS.out; obtain ⟨hcz8_0, hcz8_1, hcz8_2, hcz8_3, hcz8_4⟩ := hc8; (try simp only [] at hcz8_0))
              go_wp2
              go_roundg k1
              case measure => omega
              case rel =>
                refine ⟨j + 1, (by first | rfl | (simp; done)), ⟨by have := HJ.out; omega⟩, ⟨?_⟩, ⟨HS.out.below⟩⟩
                have hf := HS.out.holds
                rw [HT1.out]
                simpa [List.append_assoc] using hf
            | false =>
              subst d
              have h1 : value_Key.one ⟨⟨3, sc⟩, false, n, s⟩ = Lib.itoa 3 ++ ((Lib.itoa (99 / 10) ++ Lib.itoa (99 % 10)) ++ (118 :: (Lib.itoa n ++ [59]))) := by simp [value_Key.one, value_Key.sc, q]
              have hl_ := HLE.out
              have ht_ := HT.out
              rw [h1] at hl_ ht_
              have HL := Aside0.mk hl_
              have HT1 := Aside0.mk ht_
              clear hl_ ht_ h1
              go_wp2_with (go_at_call 46; (with_reducible refine (value_Key.St.fmt HS.out 3 (by omega) (by omega)).mono ?_); rintro e w1 ⟨rfl, hs⟩; have n0_ := Aside0.mk hs; clear HS; have HS := n0_; clear n0_ hs; have hc1 := value_Key.St.c HS.out; obtain ⟨hcz1_0, hcz1_1, hcz1_2, hcz1_3, hcz1_4⟩ := hc1; (try simp only [] at hcz1_0))
              go_wp2_with (go_at_call 53; (with_reducible refine (value_Key.St.write HS.out _ (by have := HL.out; first | (simp [ByteArray.size_append, size_lit] at this ⊢; omega) | (simp [ByteArray.size_append, size_lit, ByteArray.size] at this ⊢; omega))).mono ?_); rintro e w2 ⟨rfl, hs⟩; have n0_ := Aside0.mk hs; clear HS; have HS := n0_; clear n0_ hs; have hc2 := value_Key.St.c HS.out; obtain ⟨hcz2_0, hcz2_1, hcz2_2, hcz2_3, hcz2_4⟩ := hc2; (try simp only [] at hcz2_0))
              go_wp2_with (go_at_call 54; (with_reducible refine (value_Key.St.scaled HS.out sc false (by unfold value_scaled.f; split <;> simp <;> omega)).mono ?_); rintro e w3 ⟨rfl, hs⟩; have n0_ := Aside0.mk hs; clear HS; have HS := n0_; clear n0_ hs; have hc3 := value_Key.St.c HS.out; obtain ⟨hcz3_0, hcz3_1, hcz3_2, hcz3_3, hcz3_4⟩ := hc3; (try simp only [] at hcz3_0))
              go_wp2_with (go_at_call 46; (with_reducible refine (value_Key.St.fmt HS.out _ (by omega) (by omega)).mono ?_); rintro e w4 ⟨rfl, hs⟩; have n0_ := Aside0.mk hs; clear HS; have HS := n0_; clear n0_ hs; have hc4 := value_Key.St.c HS.out; obtain ⟨hcz4_0, hcz4_1, hcz4_2, hcz4_3, hcz4_4⟩ := hc4; (try simp only [] at hcz4_0))
              go_wp2_with (go_at_call 53; (with_reducible refine (value_Key.St.write HS.out _ (by have := HL.out; first | (simp [ByteArray.size_append, size_lit] at this ⊢; omega) | (simp [ByteArray.size_append, size_lit, ByteArray.size] at this ⊢; omega))).mono ?_); rintro e w5 ⟨rfl, hs⟩; have n0_ := Aside0.mk hs; clear HS; have HS := n0_; clear n0_ hs; have hc5 := value_Key.St.c HS.out; obtain ⟨hcz5_0, hcz5_1, hcz5_2, hcz5_3, hcz5_4⟩ := hc5; (try simp only [] at hcz5_0))
              go_wp2_with (go_at_call 46; (with_reducible refine (value_Key.St.fmt HS.out _ (by omega) (by omega)).mono ?_); rintro e w6 ⟨rfl, hs⟩; have n0_ := Aside0.mk hs; clear HS; have HS := n0_; clear n0_ hs; have hc6 := value_Key.St.c HS.out; obtain ⟨hcz6_0, hcz6_1, hcz6_2, hcz6_3, hcz6_4⟩ := hc6; (try simp only [] at hcz6_0))
              go_wp2_with (go_at_call 53; (with_reducible refine (value_Key.St.write HS.out _ (by have := HL.out; first | (simp [ByteArray.size_append, size_lit] at this ⊢; omega) | (simp [ByteArray.size_append, size_lit, ByteArray.size] at this ⊢; omega))).mono ?_); rintro e w7 ⟨rfl, hs⟩; have n0_ := Aside0.mk hs; clear HS; have HS := n0_; clear n0_ hs; have hc7 := value_Key.St.c HS.out; obtain ⟨hcz7_0, hcz7_1, hcz7_2, hcz7_3, hcz7_4⟩ := hc7; (try simp only [] at hcz7_0))
              go_wp2_with (go_at_call 46; (with_reducible refine (value_Key.St.fmt HS.out n n1' n2').mono ?_); rintro e w8 ⟨rfl, hs⟩; have n0_ := Aside0.mk hs; clear HS; have HS := n0_; clear n0_ hs; have hc8 := value_Key.St.c HS.out; obtain ⟨hcz8_0, hcz8_1, hcz8_2, hcz8_3, hcz8_4⟩ := hc8; (try simp only [] at hcz8_0))
              go_wp2_with (go_at_call 53; (with_reducible refine (value_Key.St.write HS.out _ (by have := HL.out; first | (simp [ByteArray.size_append, size_lit] at this ⊢; omega) | (simp [ByteArray.size_append, size_lit, ByteArray.size] at this ⊢; omega))).mono ?_); rintro e w9 ⟨rfl, hs⟩; have n0_ := Aside0.mk hs; clear HS; have HS := n0_; clear n0_ hs; have hc9 := value_Key.St.c HS.out; obtain ⟨hcz9_0, hcz9_1, hcz9_2, hcz9_3, hcz9_4⟩ := hc9; (try simp only [] at hcz9_0))
              go_wp2
              go_roundg k1
              case measure => omega
              case rel =>
                refine ⟨j + 1, (by first | rfl | (simp; done)), ⟨by have := HJ.out; omega⟩, ⟨?_⟩, ⟨HS.out.below⟩⟩
                have hf := HS.out.holds
                rw [HT1.out]
                simpa [List.append_assoc] using hf
        · cases nu with
          | true =>
            have c3 : (kd == 3) = false := beq_eq_false_iff_ne.2 d
            have h1 : value_Key.one ⟨⟨kd, sc⟩, true, n, s⟩ = Lib.itoa kd ++ ([] ++ ([110])) := by simp [value_Key.one, value_Key.sc, d]
            have hl_ := HLE.out
            have ht_ := HT.out
            rw [h1] at hl_ ht_
            have HL := Aside0.mk hl_
            have HT1 := Aside0.mk ht_
            clear hl_ ht_ h1
            go_wp2_with (go_at_call 46; (with_reducible refine (value_Key.St.fmt HS.out kd k1' k2').mono ?_); rintro e w1 ⟨rfl, hs⟩; have n0_ := Aside0.mk hs; clear HS; have HS := n0_; clear n0_ hs; have hc1 := value_Key.St.c HS.out; obtain ⟨hcz1_0, hcz1_1, hcz1_2, hcz1_3, hcz1_4⟩ := hc1; (try simp only [] at hcz1_0))
            go_wp2_with (go_at_call 53; (with_reducible refine (value_Key.St.write HS.out _ (by have := HL.out; first | (simp [ByteArray.size_append, size_lit] at this ⊢; omega) | (simp [ByteArray.size_append, size_lit, ByteArray.size] at this ⊢; omega))).mono ?_); rintro e w2 ⟨rfl, hs⟩; have n0_ := Aside0.mk hs; clear HS; have HS := n0_; clear n0_ hs; have hc2 := value_Key.St.c HS.out; obtain ⟨hcz2_0, hcz2_1, hcz2_2, hcz2_3, hcz2_4⟩ := hc2; (try simp only [] at hcz2_0))
            go_wp2_with (go_at_call 53; (with_reducible refine (value_Key.St.write HS.out _ (by have := HL.out; first | (simp [ByteArray.size_append, size_lit] at this ⊢; omega) | (simp [ByteArray.size_append, size_lit, ByteArray.size] at this ⊢; omega))).mono ?_); rintro e w3 ⟨rfl, hs⟩; have n0_ := Aside0.mk hs; clear HS; have HS := n0_; clear n0_ hs; have hc3 := value_Key.St.c HS.out; obtain ⟨hcz3_0, hcz3_1, hcz3_2, hcz3_3, hcz3_4⟩ := hc3; (try simp only [] at hcz3_0))
            go_wp2
            go_roundg k1
            case measure => omega
            case rel =>
              refine ⟨j + 1, (by first | rfl | (simp; done)), ⟨by have := HJ.out; omega⟩, ⟨?_⟩, ⟨HS.out.below⟩⟩
              have hf := HS.out.holds
              rw [HT1.out]
              simpa [List.append_assoc] using hf
          | false =>
            by_cases g : kd = 4
            · subst g
              have h1 : value_Key.one ⟨⟨4, sc⟩, false, n, s⟩ = Lib.itoa 4 ++ ([] ++ (118 :: (Lib.itoa (s.size : Int) ++ 58 :: s.data.toList))) := by simp [value_Key.one, value_Key.sc]
              have hl_ := HLE.out
              have ht_ := HT.out
              rw [h1] at hl_ ht_
              have HL := Aside0.mk hl_
              have HT1 := Aside0.mk ht_
              clear hl_ ht_ h1
              go_wp2_with (go_at_call 46; (with_reducible refine (value_Key.St.fmt HS.out 4 (by omega) (by omega)).mono ?_); rintro e w1 ⟨rfl, hs⟩; have n0_ := Aside0.mk hs; clear HS; have HS := n0_; clear n0_ hs; have hc1 := value_Key.St.c HS.out; obtain ⟨hcz1_0, hcz1_1, hcz1_2, hcz1_3, hcz1_4⟩ := hc1; (try simp only [] at hcz1_0))
              go_wp2_with (go_at_call 53; (with_reducible refine (value_Key.St.write HS.out _ (by have := HL.out; first | (simp [ByteArray.size_append, size_lit] at this ⊢; omega) | (simp [ByteArray.size_append, size_lit, ByteArray.size] at this ⊢; omega))).mono ?_); rintro e w2 ⟨rfl, hs⟩; have n0_ := Aside0.mk hs; clear HS; have HS := n0_; clear n0_ hs; have hc2 := value_Key.St.c HS.out; obtain ⟨hcz2_0, hcz2_1, hcz2_2, hcz2_3, hcz2_4⟩ := hc2; (try simp only [] at hcz2_0))
              have s1_ : (9223372036854775807 < 1 + (Lib.itoa (s.size : Int)).length) = False := eq_false (by omega)
              have s2_ : (9223372036854775807 < 1 + (Lib.itoa (s.size : Int)).length + 1) = False := eq_false (by omega)
              have s3_ : (9223372036854775807 < 1 + (Lib.itoa (s.size : Int)).length + 1 + s.size) = False := eq_false (by omega)
              have t0_ : (⟨(Lib.itoa (s.size : Int)).toArray⟩ : ByteArray).size = (Lib.itoa (s.size : Int)).length := size_lit _
              have t1_ : (9223372036854775807 < 1 + (⟨(Lib.itoa (s.size : Int)).toArray⟩ : ByteArray).size) = False := eq_false (by omega)
              have t2_ : (9223372036854775807 < 1 + (⟨(Lib.itoa (s.size : Int)).toArray⟩ : ByteArray).size + 1) = False := eq_false (by omega)
              have t3_ : (9223372036854775807 < 1 + (⟨(Lib.itoa (s.size : Int)).toArray⟩ : ByteArray).size + 1 + s.size) = False := eq_false (by omega)
              clear t0_
              go_wp2_with fail
              have hh_ := HS.out
              have hcq_ := (value_Key.St.c hh_).2.2.2.2
              simp only at hcq_
              go_region_held3 (fun w' => w'.cell? ⟨wr.heap.size, 4, none⟩ = some (.string s)) (exact hcq_) (first | (go_at_call 46; refine (value_Key.St.fmt (hh_.of_below (by repeat (first | exact Below.refl _ _ | apply pw_below_drewN | apply below_drew1))) _ (by omega) (by omega)).mono ?_; rintro e w' ⟨rfl, hs⟩; have hcq_ := (value_Key.St.c hs).2.2.2.2; have hh_ := hs) | (go_at_call 53; refine (value_Key.St.write (hh_.of_below (by repeat (first | exact Below.refl _ _ | apply pw_below_drewN | apply below_drew1))) _ (by have := HL.out; first | (simp [ByteArray.size_append, size_lit] at this ⊢; omega) | (simp [ByteArray.size_append, size_lit, ByteArray.size] at this ⊢; omega))).mono ?_; rintro e w' ⟨rfl, hs⟩; have hcq_ := (value_Key.St.c hs).2.2.2.2; have hh_ := hs))
              clear HS
              have HS := Aside0.mk hh_
              go_wp2
              go_roundg k1
              case measure => omega
              case rel =>
                refine ⟨j + 1, (by first | rfl | (simp; done)), ⟨by have := HJ.out; omega⟩, ⟨?_⟩, ⟨HS.out.below⟩⟩
                have hf := HS.out.holds
                rw [HT1.out]
                simpa [List.append_assoc] using hf
            · have c3 : (kd == 3) = false := beq_eq_false_iff_ne.2 d
              have c4 : (kd == 4) = false := beq_eq_false_iff_ne.2 g
              have h1 : value_Key.one ⟨⟨kd, sc⟩, false, n, s⟩ = Lib.itoa kd ++ ([] ++ (118 :: (Lib.itoa n ++ [59]))) := by simp [value_Key.one, value_Key.sc, d, g]
              have hl_ := HLE.out
              have ht_ := HT.out
              rw [h1] at hl_ ht_
              have HL := Aside0.mk hl_
              have HT1 := Aside0.mk ht_
              clear hl_ ht_ h1
              go_wp2_with (go_at_call 46; (with_reducible refine (value_Key.St.fmt HS.out kd k1' k2').mono ?_); rintro e w1 ⟨rfl, hs⟩; have n0_ := Aside0.mk hs; clear HS; have HS := n0_; clear n0_ hs; have hc1 := value_Key.St.c HS.out; obtain ⟨hcz1_0, hcz1_1, hcz1_2, hcz1_3, hcz1_4⟩ := hc1; (try simp only [] at hcz1_0))
              go_wp2_with (go_at_call 53; (with_reducible refine (value_Key.St.write HS.out _ (by have := HL.out; first | (simp [ByteArray.size_append, size_lit] at this ⊢; omega) | (simp [ByteArray.size_append, size_lit, ByteArray.size] at this ⊢; omega))).mono ?_); rintro e w2 ⟨rfl, hs⟩; have n0_ := Aside0.mk hs; clear HS; have HS := n0_; clear n0_ hs; have hc2 := value_Key.St.c HS.out; obtain ⟨hcz2_0, hcz2_1, hcz2_2, hcz2_3, hcz2_4⟩ := hc2; (try simp only [] at hcz2_0))
              go_wp2_with (go_at_call 46; (with_reducible refine (value_Key.St.fmt HS.out n n1' n2').mono ?_); rintro e w3 ⟨rfl, hs⟩; have n0_ := Aside0.mk hs; clear HS; have HS := n0_; clear n0_ hs; have hc3 := value_Key.St.c HS.out; obtain ⟨hcz3_0, hcz3_1, hcz3_2, hcz3_3, hcz3_4⟩ := hc3; (try simp only [] at hcz3_0))
              go_wp2_with (go_at_call 53; (with_reducible refine (value_Key.St.write HS.out _ (by have := HL.out; first | (simp [ByteArray.size_append, size_lit] at this ⊢; omega) | (simp [ByteArray.size_append, size_lit, ByteArray.size] at this ⊢; omega))).mono ?_); rintro e w4 ⟨rfl, hs⟩; have n0_ := Aside0.mk hs; clear HS; have HS := n0_; clear n0_ hs; have hc4 := value_Key.St.c HS.out; obtain ⟨hcz4_0, hcz4_1, hcz4_2, hcz4_3, hcz4_4⟩ := hc4; (try simp only [] at hcz4_0))
              go_wp2
              go_roundg k1
              case measure => omega
              case rel =>
                refine ⟨j + 1, (by first | rfl | (simp; done)), ⟨by have := HJ.out; omega⟩, ⟨?_⟩, ⟨HS.out.below⟩⟩
                have hf := HS.out.holds
                rw [HT1.out]
                simpa [List.append_assoc] using hf
  · rw [if_neg hs] at h; exact absurd h (by simp)


end Go.Proofs.YtjpgjggbanpegaaDoor.K
