/- PRINTED BY A PROGRAM OF THIS SESSION (px.py, over the kit's print): Lean functions with the answers of Go functions of the given program, and proofs that the Go code comes to these answers; each under the conditions that its theorem states. -/
import Derived.Test.YtgkkbbpcdjogoaaDoorT0
import Derived.Test.YtgkkbbpcdjogoaaDoorT1
import Derived.Test.YtgkkbbpcdjogoaaDoorT2
import Derived.Test.YtgkkbbpcdjogoaaDoorT5
import Derived.Test.YtgkkbbpcdjogoaaDoorT6
import Derived.Test.YtgkkbbpcdjogoaaDoorT7
import Derived.Test.YtgkkbbpcdjogoaaDoorT9
import Derived.Test.YtgkkbbpcdjogoaaDoorT10
namespace Go.Proofs.YtgkkbbpcdjogoaaDoor.T
open Go.RowKit Go.Proofs.YtgkkbbpcdjogoaaDoorW.PrintWords Go.Proofs.YtgkkbbpcdjogoaaDoorW.PrintLast Go.Proofs.YtgkkbbpcdjogoaaDoorW.PrintMore
attribute [local go_sem] max2_int min2_int max_two min_two max_three min_three max_four min_four   -- for this text's walks alone
set_option linter.unusedVariables false
set_option linter.unusedSimpArgs false

/-! ### colonnadelaw01_NumBack: function 3 -/
mutual
def colonnadelaw01_NumBack.j0 : Nat → Int → Int → Bool → Option (Bool)
  | 0, _, _, _ => none
  | k + 1, x0, x1, x30 => if x30 = true then (none) else ((num_FormatDec.f x0 x1).bind fun bt136 => (if bt136.2 = 0 then ((num_Fits.f x0).bind fun t138 => (colonnadelaw01_NumBack.j1 k x0 x1 bt136.1 t138)) else (colonnadelaw01_NumBack.j1 k x0 x1 bt136.1 false)))
def colonnadelaw01_NumBack.j1 : Nat → Int → Int → ByteArray → Bool → Option (Bool)
  | 0, _, _, _, _ => none
  | k + 1, x0, x1, x7, x42 => if x42 = true then ((num_ParseDec.f x7).bind fun bt139 => (if bt139.1 = x0 then (if bt139.2.1 = x1 then (if bt139.2.2 = 0 then (colonnadelaw01_NumBack.j2 k x0) else (none)) else (none)) else (none))) else (colonnadelaw01_NumBack.j2 k x0)
def colonnadelaw01_NumBack.j2 : Nat → Int → Option (Bool)
  | 0, _ => none
  | k + 1, x0 => (num_FormatDay.f k x0).bind fun bt142 => (if bt142.2 = 0 then ((num_ParseDay.f k bt142.1).bind fun bt144 => (if bt144.1 = x0 then (if bt144.2 = 0 then (some ((bt142.1.size : Int) == 10)) else (none)) else (none))) else (if bt142.1.toList = ([] : List UInt8) then (if x0 < (-719162) then (some true) else (some (decide (x0 > 2932896)))) else (none)))
end
def colonnadelaw01_NumBack.f (k : Nat) (a0 : Int) (a1 : Int) : Option (Bool) := (colonnadelaw01_begun.f k).bind fun t132 => (if t132 = true then ((num_FormatInt.f a0).bind fun t133 => ((num_ParseInt.f t133).bind fun bt134 => (if bt134.1 = a0 then (colonnadelaw01_NumBack.j0 k a0 a1 (bt134.2 != 0)) else (colonnadelaw01_NumBack.j0 k a0 a1 true)))) else (none))
theorem colonnadelaw01_NumBack.mono_l : ∀ k, (∀ y0 y1 y2, LeO (colonnadelaw01_NumBack.j0 k y0 y1 y2) (colonnadelaw01_NumBack.j0 (k + 1) y0 y1 y2)) ∧ (∀ y0 y1 y2 y3, LeO (colonnadelaw01_NumBack.j1 k y0 y1 y2 y3) (colonnadelaw01_NumBack.j1 (k + 1) y0 y1 y2 y3)) ∧ (∀ y0, LeO (colonnadelaw01_NumBack.j2 k y0) (colonnadelaw01_NumBack.j2 (k + 1) y0))
  | 0 => ⟨fun _ _ _ r h => by simp [colonnadelaw01_NumBack.j0] at h, fun _ _ _ _ r h => by simp [colonnadelaw01_NumBack.j1] at h, fun _ r h => by simp [colonnadelaw01_NumBack.j2] at h⟩
  | k + 1 => by
    obtain ⟨ih0, ih1, ih2⟩ := colonnadelaw01_NumBack.mono_l k
    refine ⟨?_, ?_, ?_⟩
    · intro y0 y1 y2
      unfold colonnadelaw01_NumBack.j0
      repeat' first
      | (with_reducible exact ih0 _ _ _)
      | (with_reducible exact ih1 _ _ _ _)
      | (with_reducible exact ih2 _)
      | (with_reducible exact colonnadelaw01_begun.mono _)
      | (with_reducible exact num_FormatDay.mono _ _)
      | (with_reducible exact num_ParseDay.mono _ _)
      | (with_reducible exact LeO.refl _)
      | (with_reducible exact LeO.none _)
      | (with_reducible refine LeO.ite ?_ ?_)
      | (with_reducible refine LeO.bind ?_ (fun _ => ?_))
      | exact ih0 _ _ _
      | exact ih1 _ _ _ _
      | exact ih2 _
      | exact colonnadelaw01_begun.mono _
      | exact num_FormatDay.mono _ _
      | exact num_ParseDay.mono _ _
      | exact LeO.none _
      | refine LeO.ite ?_ ?_
      | refine LeO.bind ?_ (fun _ => ?_)
    · intro y0 y1 y2 y3
      unfold colonnadelaw01_NumBack.j1
      repeat' first
      | (with_reducible exact ih0 _ _ _)
      | (with_reducible exact ih1 _ _ _ _)
      | (with_reducible exact ih2 _)
      | (with_reducible exact colonnadelaw01_begun.mono _)
      | (with_reducible exact num_FormatDay.mono _ _)
      | (with_reducible exact num_ParseDay.mono _ _)
      | (with_reducible exact LeO.refl _)
      | (with_reducible exact LeO.none _)
      | (with_reducible refine LeO.ite ?_ ?_)
      | (with_reducible refine LeO.bind ?_ (fun _ => ?_))
      | exact ih0 _ _ _
      | exact ih1 _ _ _ _
      | exact ih2 _
      | exact colonnadelaw01_begun.mono _
      | exact num_FormatDay.mono _ _
      | exact num_ParseDay.mono _ _
      | exact LeO.none _
      | refine LeO.ite ?_ ?_
      | refine LeO.bind ?_ (fun _ => ?_)
    · intro y0
      unfold colonnadelaw01_NumBack.j2
      repeat' first
      | (with_reducible exact ih0 _ _ _)
      | (with_reducible exact ih1 _ _ _ _)
      | (with_reducible exact ih2 _)
      | (with_reducible exact colonnadelaw01_begun.mono _)
      | (with_reducible exact num_FormatDay.mono _ _)
      | (with_reducible exact num_ParseDay.mono _ _)
      | (with_reducible exact LeO.refl _)
      | (with_reducible exact LeO.none _)
      | (with_reducible refine LeO.ite ?_ ?_)
      | (with_reducible refine LeO.bind ?_ (fun _ => ?_))
      | exact ih0 _ _ _
      | exact ih1 _ _ _ _
      | exact ih2 _
      | exact colonnadelaw01_begun.mono _
      | exact num_FormatDay.mono _ _
      | exact num_ParseDay.mono _ _
      | exact LeO.none _
      | refine LeO.ite ?_ ?_
      | refine LeO.bind ?_ (fun _ => ?_)
theorem colonnadelaw01_NumBack.mono : ∀ a0 a1 k, LeO (colonnadelaw01_NumBack.f k a0 a1) (colonnadelaw01_NumBack.f (k + 1) a0 a1) := by
  intro a0 a1 k
  obtain ⟨ih0, ih1, ih2⟩ := colonnadelaw01_NumBack.mono_l k
  unfold colonnadelaw01_NumBack.f
  repeat' first
      | (with_reducible exact ih0 _ _ _)
      | (with_reducible exact ih1 _ _ _ _)
      | (with_reducible exact ih2 _)
      | (with_reducible exact colonnadelaw01_begun.mono _)
      | (with_reducible exact num_FormatDay.mono _ _)
      | (with_reducible exact num_ParseDay.mono _ _)
      | (with_reducible exact LeO.refl _)
      | (with_reducible exact LeO.none _)
      | (with_reducible refine LeO.ite ?_ ?_)
      | (with_reducible refine LeO.bind ?_ (fun _ => ?_))
      | exact ih0 _ _ _
      | exact ih1 _ _ _ _
      | exact ih2 _
      | exact colonnadelaw01_begun.mono _
      | exact num_FormatDay.mono _ _
      | exact num_ParseDay.mono _ _
      | exact LeO.none _
      | refine LeO.ite ?_ ?_
      | refine LeO.bind ?_ (fun _ => ?_)
set_option maxHeartbeats 8000000 in
set_option maxRecDepth 100000 in
theorem colonnadelaw01_NumBack.calls (k : Nat) (a0 : Int) (a1 : Int) (r : Bool) (w : World) (h : colonnadelaw01_NumBack.f k a0 a1 = some r) (hG : Gl w) :
    Calls Tryd.prog 3 #[.int .i64 a0, .int .i64 a1] w fun e w' => e = .returned (.bool r) ∧ Below w.heap.size w w' := by
  have HG := Aside0.mk hG
  clear hG
  have HB := Aside0.mk (Below.refl w.heap.size w)
  have H : ((colonnadelaw01_begun.f k).bind fun t132 => (if t132 = true then ((num_FormatInt.f a0).bind fun t133 => ((num_ParseInt.f t133).bind fun bt134 => (if bt134.1 = a0 then (colonnadelaw01_NumBack.j0 k a0 a1 (bt134.2 != 0)) else (colonnadelaw01_NumBack.j0 k a0 a1 true)))) else (none))) = some r := h
  clear h
  replace H := Option.bind_eq_some_iff.mp H
  obtain ⟨t132, A30, H⟩ := H
  replace H : (if t132 = true then ((num_FormatInt.f a0).bind fun t133 => ((num_ParseInt.f t133).bind fun bt134 => (if bt134.1 = a0 then (colonnadelaw01_NumBack.j0 k a0 a1 (bt134.2 != 0)) else (colonnadelaw01_NumBack.j0 k a0 a1 true)))) else (none)) = some r := H
  have A3 := Aside0.mk A30
  clear A30
  by_cases c4 : t132 = true
  · subst c4
    have H1 : ((num_FormatInt.f a0).bind fun t133 => ((num_ParseInt.f t133).bind fun bt134 => (if bt134.1 = a0 then (colonnadelaw01_NumBack.j0 k a0 a1 (bt134.2 != 0)) else (colonnadelaw01_NumBack.j0 k a0 a1 true)))) = some r := by rw [if_pos rfl] at H; exact H
    clear H
    have H := H1
    clear H1
    replace H := Option.bind_eq_some_iff.mp H
    obtain ⟨t133, A50, H⟩ := H
    replace H : ((num_ParseInt.f t133).bind fun bt134 => (if bt134.1 = a0 then (colonnadelaw01_NumBack.j0 k a0 a1 (bt134.2 != 0)) else (colonnadelaw01_NumBack.j0 k a0 a1 true))) = some r := H
    have A5 := Aside0.mk A50
    clear A50
    replace H := Option.bind_eq_some_iff.mp H
    obtain ⟨⟨t134, t135⟩, A60, H⟩ := H
    replace H : (if t134 = a0 then (colonnadelaw01_NumBack.j0 k a0 a1 (t135 != 0)) else (colonnadelaw01_NumBack.j0 k a0 a1 true)) = some r := H
    have A6 := Aside0.mk A60
    clear A60
    have HC7 := Aside0.mk H
    clear H
    go_enter Tryd.func3, Tryd.ntmps3
    go_upto_region 4 with (first | ((with_reducible refine gate_callee (f := 4) rfl ?_); refine goesL_ (some 16) rfl rfl Tryd.func4 (by kernel_rfl) rfl #[] rfl (by (try simp only [List.map_toArray, List.map_cons, List.map_nil]); first | done | rfl | (simp only [List.length_drop, List.length_take]; rfl)) ?_; (with_reducible refine (colonnadelaw01_begun.calls k  true _ A3.out (Gl.of HG.out (by repeat (first | exact HB.out | apply below_alloc | apply pw_below_drewN | apply below_drew1)))).mono ?_); rintro e w8 ⟨rfl, hb⟩; refine ⟨_, rfl, ?_⟩; have n0_ := Aside0.mk (below_step (by repeat (first | (with_reducible first | exact HB.out | apply below_alloc | apply pw_below_drewN | apply below_drew1) | exact HB.out)) hb); clear HB; have HB := n0_; clear n0_; (try clear hb); (try clear hb2); (try clear hk); (try clear hi)) | ((with_reducible refine gate_callee (f := 6) rfl ?_); refine goesL_ (some 20) rfl rfl Tryd.func6 (by kernel_rfl) rfl #[.int .i64 a0] rfl (by (try simp only [List.map_toArray, List.map_cons, List.map_nil]); first | done | rfl | (simp only [List.length_drop, List.length_take]; rfl)) ?_; (with_reducible refine (num_FormatInt.calls a0 t133 _ A5.out (Gl.of HG.out (by repeat (first | exact HB.out | apply below_alloc | apply pw_below_drewN | apply below_drew1)))).mono ?_); rintro e w9 ⟨rfl, hb⟩; refine ⟨_, rfl, ?_⟩; have n0_ := Aside0.mk (below_step (by repeat (first | (with_reducible first | exact HB.out | apply below_alloc | apply pw_below_drewN | apply below_drew1) | exact HB.out)) hb); clear HB; have HB := n0_; clear n0_; (try clear hb); (try clear hb2); (try clear hk); (try clear hi)) | ((with_reducible refine gate_callee (f := 5) rfl ?_); refine goesL_ (some 21) rfl rfl Tryd.func5 (by kernel_rfl) rfl #[.string t133] rfl (by (try simp only [List.map_toArray, List.map_cons, List.map_nil]); first | done | rfl | (simp only [List.length_drop, List.length_take]; rfl)) ?_; (with_reducible refine (num_ParseInt.calls t133 t134 t135 _ A6.out (Gl.of HG.out (by repeat (first | exact HB.out | apply below_alloc | apply pw_below_drewN | apply below_drew1)))).mono ?_); rintro e w10 ⟨rfl, hb⟩; refine ⟨_, rfl, ?_⟩; have n0_ := Aside0.mk (below_step (by repeat (first | (with_reducible first | exact HB.out | apply below_alloc | apply pw_below_drewN | apply below_drew1) | exact HB.out)) hb); clear HB; have HB := n0_; clear n0_; (try clear hb); (try clear hb2); (try clear hk); (try clear hi)))
    (try simp only [Act.put, List.setIfInBounds_toArray, List.set_cons_zero, List.set_cons_succ])
    go_cut [30] (fun v30 wc => ∃ (kq : Nat) (x30_6 : Bool), v30 = .bool x30_6 ∧ Aside0 (colonnadelaw01_NumBack.j0 kq a0 a1 x30_6 = some r) ∧ Aside0 (kq ≤ k) ∧ Aside0 (Below w.heap.size w wc))
    case first =>
      have H := HC7.out
      clear HC7
      by_cases c11 : t134 = a0
      · rw [if_pos c11] at H
        have c11b0 : (t134 == a0) = true := beq_iff_eq.mpr c11
        have c11b1 : (t134 != a0) = false := bne_eq_false_iff_eq.mpr c11
        clear c11
        (first | rw [c11b0] | (simp only [i64_w, i32_w]; rw [c11b0]) | skip)
        have H' := Aside0.mk H
        clear H
        go_wp2
        go_meet
        case rel => exact ⟨_, ((t135 != 0)), (by first | rfl | (simp; done) | (simp [*]; done)), H', ⟨by first | omega | exact Nat.le_refl _⟩, ⟨by repeat (first | (with_reducible first | exact HB.out | apply below_alloc | apply pw_below_drewN | apply below_drew1) | exact HB.out)⟩⟩
      · rw [if_neg c11] at H
        have c11b0 : (t134 == a0) = false := beq_eq_false_iff_ne.mpr c11
        have c11b1 : (t134 != a0) = true := bne_iff_ne.mpr c11
        (first | rw [c11b0] | (simp only [i64_w, i32_w]; rw [c11b0]) | skip)
        have H' := Aside0.mk H
        clear H
        go_wp2
        go_meet
        case rel => exact ⟨_, (true), (by first | rfl | (simp; done) | (simp [*]; done)), H', ⟨by first | omega | exact Nat.le_refl _⟩, ⟨by repeat (first | (with_reducible first | exact HB.out | apply below_alloc | apply pw_below_drewN | apply below_drew1) | exact HB.out)⟩⟩
    case rest =>
      clear HC7
      try clear c1
      try clear p2
      try clear c3
      try clear c4
      try clear c5
      try clear c6
      try clear c11
      try clear c11b0
      try clear c11b1
      obtain ⟨kq, x30_6, rfl, HA, HJ6, HB⟩ := hcut
      cases kq with
      | zero => exact absurd HA.out (by simp [colonnadelaw01_NumBack.j0])
      | succ kj6 =>
        have H := HA.out
        clear HA
        simp only [colonnadelaw01_NumBack.j0] at H
        by_cases c12 : x30_6 = true
        · subst c12
          have H1 : (none) = some r := by rw [if_pos rfl] at H; exact H
          clear H
          have H := H1
          clear H1
          exact absurd H (by simp)
        · replace c12 := Bool.eq_false_iff.mpr c12
          subst c12
          have H1 : ((num_FormatDec.f a0 a1).bind fun bt136 => (if bt136.2 = 0 then ((num_Fits.f a0).bind fun t138 => (colonnadelaw01_NumBack.j1 kj6 a0 a1 bt136.1 t138)) else (colonnadelaw01_NumBack.j1 kj6 a0 a1 bt136.1 false))) = some r := by rw [if_neg (show ¬ (false = true) by decide)] at H; exact H
          clear H
          have H := H1
          clear H1
          replace H := Option.bind_eq_some_iff.mp H
          obtain ⟨⟨t136, t137⟩, A130, H⟩ := H
          replace H : (if t137 = 0 then ((num_Fits.f a0).bind fun t138 => (colonnadelaw01_NumBack.j1 kj6 a0 a1 t136 t138)) else (colonnadelaw01_NumBack.j1 kj6 a0 a1 t136 false)) = some r := H
          have A13 := Aside0.mk A130
          clear A130
          have HC14 := Aside0.mk H
          clear H
          go_upto_region 7 with (first | ((with_reducible refine gate_callee (f := 7) rfl ?_); refine goesL_ (some 34) rfl rfl Tryd.func7 (by kernel_rfl) rfl #[.int .i64 a0, .int .i64 a1] rfl (by (try simp only [List.map_toArray, List.map_cons, List.map_nil]); first | done | rfl | (simp only [List.length_drop, List.length_take]; rfl)) ?_; (with_reducible refine (num_FormatDec.calls a0 a1 t136 t137 _ A13.out (Gl.of HG.out (by repeat (first | exact HB.out | apply below_alloc | apply pw_below_drewN | apply below_drew1)))).mono ?_); rintro e w15 ⟨rfl, hb⟩; refine ⟨_, rfl, ?_⟩; have n0_ := Aside0.mk (below_step (by repeat (first | (with_reducible first | exact HB.out | apply below_alloc | apply pw_below_drewN | apply below_drew1) | exact HB.out)) hb); clear HB; have HB := n0_; clear n0_; (try clear hb); (try clear hb2); (try clear hk); (try clear hi)))
          (try simp only [Act.put, List.setIfInBounds_toArray, List.set_cons_zero, List.set_cons_succ])
          go_cut [42] (fun v42 wc => ∃ (kq : Nat) (x42_13 : Bool), v42 = .bool x42_13 ∧ Aside0 (colonnadelaw01_NumBack.j1 kq a0 a1 t136 x42_13 = some r) ∧ Aside0 (kq ≤ kj6) ∧ Aside0 (Below w.heap.size w wc))
          case first =>
            have H := HC14.out
            clear HC14
            by_cases c16 : t137 = 0
            · rw [if_pos c16] at H
              have c16b0 : (t137 == 0) = true := beq_iff_eq.mpr c16
              have c16b1 : (t137 != 0) = false := bne_eq_false_iff_eq.mpr c16
              clear c16
              (first | rw [c16b0] | (simp only [i64_w, i32_w]; rw [c16b0]) | skip)
              replace H := Option.bind_eq_some_iff.mp H
              obtain ⟨t138, A170, H⟩ := H
              replace H : (colonnadelaw01_NumBack.j1 kj6 a0 a1 t136 t138) = some r := H
              have A17 := Aside0.mk A170
              clear A170
              have H' := Aside0.mk H
              clear H
              go_wp2_with (first | (go_at_call 8; (with_reducible refine (num_Fits.calls a0 t138 _ A17.out).mono ?_); rintro e w' ⟨rfl, ⟨nd, rfl⟩⟩))
              go_meet
              case rel => exact ⟨_, (t138), (by first | rfl | (simp; done) | (simp [*]; done)), H', ⟨by have := HJ6.out; first | omega | exact Nat.le_refl _⟩, ⟨by repeat (first | (with_reducible first | exact HB.out | apply below_alloc | apply pw_below_drewN | apply below_drew1) | exact HB.out)⟩⟩
            · rw [if_neg c16] at H
              have c16b0 : (t137 == 0) = false := beq_eq_false_iff_ne.mpr c16
              have c16b1 : (t137 != 0) = true := bne_iff_ne.mpr c16
              (first | rw [c16b0] | (simp only [i64_w, i32_w]; rw [c16b0]) | skip)
              have H' := Aside0.mk H
              clear H
              go_wp2
              go_meet
              case rel => exact ⟨_, (false), (by first | rfl | (simp; done) | (simp [*]; done)), H', ⟨by have := HJ6.out; first | omega | exact Nat.le_refl _⟩, ⟨by repeat (first | (with_reducible first | exact HB.out | apply below_alloc | apply pw_below_drewN | apply below_drew1) | exact HB.out)⟩⟩
          case rest =>
            clear HC14
            try clear c1
            try clear p2
            try clear c3
            try clear c4
            try clear c5
            try clear c6
            try clear c7
            try clear c11
            try clear c11b0
            try clear c11b1
            try clear c12
            try clear c16
            try clear c16b0
            try clear c16b1
            try clear p2
            obtain ⟨kq, x42_13, rfl, HA, HJ13, HB⟩ := hcut
            cases kq with
            | zero => exact absurd HA.out (by simp [colonnadelaw01_NumBack.j1])
            | succ kj13 =>
              have H := HA.out
              clear HA
              simp only [colonnadelaw01_NumBack.j1] at H
              have HC18 := Aside0.mk H
              clear H
              go_upto_if 42 with (fail)
              go_cut [] (fun wc => ∃ (kq : Nat), Aside0 (colonnadelaw01_NumBack.j2 kq a0 = some r) ∧ Aside0 (kq ≤ kj13) ∧ Aside0 (Below w.heap.size w wc))
              case first =>
                have H := HC18.out
                clear HC18
                by_cases c19 : x42_13 = true
                · subst c19
                  have H1 : ((num_ParseDec.f t136).bind fun bt139 => (if bt139.1 = a0 then (if bt139.2.1 = a1 then (if bt139.2.2 = 0 then (colonnadelaw01_NumBack.j2 kj13 a0) else (none)) else (none)) else (none))) = some r := by rw [if_pos rfl] at H; exact H
                  clear H
                  have H := H1
                  clear H1
                  replace H := Option.bind_eq_some_iff.mp H
                  obtain ⟨⟨t139, t140, t141⟩, A200, H⟩ := H
                  replace H : (if t139 = a0 then (if t140 = a1 then (if t141 = 0 then (colonnadelaw01_NumBack.j2 kj13 a0) else (none)) else (none)) else (none)) = some r := H
                  have A20 := Aside0.mk A200
                  clear A200
                  by_cases c21 : t139 = a0
                  · rw [if_pos c21] at H
                    have c21b0 : (t139 == a0) = true := beq_iff_eq.mpr c21
                    have c21b1 : (t139 != a0) = false := bne_eq_false_iff_eq.mpr c21
                    clear c21
                    (first | rw [c21b0] | (simp only [i64_w, i32_w]; rw [c21b0]) | skip)
                    by_cases c22 : t140 = a1
                    · rw [if_pos c22] at H
                      have c22b0 : (t140 == a1) = true := beq_iff_eq.mpr c22
                      have c22b1 : (t140 != a1) = false := bne_eq_false_iff_eq.mpr c22
                      clear c22
                      by_cases c23 : t141 = 0
                      · rw [if_pos c23] at H
                        have c23b0 : (t141 == 0) = true := beq_iff_eq.mpr c23
                        have c23b1 : (t141 != 0) = false := bne_eq_false_iff_eq.mpr c23
                        clear c23
                        have H' := Aside0.mk H
                        clear H
                        go_wp2_with (first | ((with_reducible refine gate_callee (f := 9) rfl ?_); refine goesL_ (some 45) rfl rfl Tryd.func9 (by kernel_rfl) rfl #[.string t136] rfl (by (try simp only [List.map_toArray, List.map_cons, List.map_nil]); first | done | rfl | (simp only [List.length_drop, List.length_take]; rfl)) ?_; (with_reducible refine (num_ParseDec.calls t136 t139 t140 t141 _ A20.out (Gl.of HG.out (by repeat (first | exact HB.out | apply below_alloc | apply pw_below_drewN | apply below_drew1)))).mono ?_); rintro e w24 ⟨rfl, hb⟩; refine ⟨_, rfl, ?_⟩; have n0_ := Aside0.mk (below_step (by repeat (first | (with_reducible first | exact HB.out | apply below_alloc | apply pw_below_drewN | apply below_drew1) | exact HB.out)) hb); clear HB; have HB := n0_; clear n0_; (try clear hb); (try clear hb2); (try clear hk); (try clear hi)))
                        go_meet
                        case rel => exact ⟨_, H', ⟨by have := HJ6.out; have := HJ13.out; first | omega | exact Nat.le_refl _⟩, ⟨by repeat (first | (with_reducible first | exact HB.out | apply below_alloc | apply pw_below_drewN | apply below_drew1) | exact HB.out)⟩⟩
                      · rw [if_neg c23] at H
                        exact absurd H (by simp)
                    · rw [if_neg c22] at H
                      exact absurd H (by simp)
                  · rw [if_neg c21] at H
                    exact absurd H (by simp)
                · replace c19 := Bool.eq_false_iff.mpr c19
                  subst c19
                  have H1 : (colonnadelaw01_NumBack.j2 kj13 a0) = some r := by rw [if_neg (show ¬ (false = true) by decide)] at H; exact H
                  clear H
                  have H := H1
                  clear H1
                  have H' := Aside0.mk H
                  clear H
                  go_wp2
                  go_meet
                  case rel => exact ⟨_, H', ⟨by have := HJ6.out; have := HJ13.out; first | omega | exact Nat.le_refl _⟩, ⟨by repeat (first | (with_reducible first | exact HB.out | apply below_alloc | apply pw_below_drewN | apply below_drew1) | exact HB.out)⟩⟩
              case rest =>
                clear HC18
                try clear c1
                try clear c2
                try clear p2
                try clear c3
                try clear c4
                try clear c5
                try clear c6
                try clear c7
                try clear c9
                try clear c11
                try clear c11b0
                try clear c11b1
                try clear c12
                try clear c16
                try clear c16b0
                try clear c16b1
                try clear c19
                try clear c21
                try clear c21b0
                try clear c21b1
                try clear c22
                try clear c22b0
                try clear c22b1
                try clear c23
                try clear c23b0
                try clear c23b1
                try clear p2
                obtain ⟨kq, HA, HJ17, HB⟩ := hcut
                cases kq with
                | zero => exact absurd HA.out (by simp [colonnadelaw01_NumBack.j2])
                | succ kj17 =>
                  have H := HA.out
                  clear HA
                  simp only [colonnadelaw01_NumBack.j2] at H
                  replace H := Option.bind_eq_some_iff.mp H
                  obtain ⟨⟨t142, t143⟩, A250, H⟩ := H
                  replace H : (if t143 = 0 then ((num_ParseDay.f kj17 t142).bind fun bt144 => (if bt144.1 = a0 then (if bt144.2 = 0 then (some ((t142.size : Int) == 10)) else (none)) else (none))) else (if t142.toList = ([] : List UInt8) then (if a0 < (-719162) then (some true) else (some (decide (a0 > 2932896)))) else (none))) = some r := H
                  have A25 := Aside0.mk A250
                  clear A250
                  by_cases c26 : t143 = 0
                  · rw [if_pos c26] at H
                    have c26b0 : (t143 == 0) = true := beq_iff_eq.mpr c26
                    have c26b1 : (t143 != 0) = false := bne_eq_false_iff_eq.mpr c26
                    clear c26
                    replace H := Option.bind_eq_some_iff.mp H
                    obtain ⟨⟨t144, t145⟩, A270, H⟩ := H
                    replace H : (if t144 = a0 then (if t145 = 0 then (some ((t142.size : Int) == 10)) else (none)) else (none)) = some r := H
                    have A27 := Aside0.mk A270
                    clear A270
                    by_cases c28 : t144 = a0
                    · rw [if_pos c28] at H
                      have c28b0 : (t144 == a0) = true := beq_iff_eq.mpr c28
                      have c28b1 : (t144 != a0) = false := bne_eq_false_iff_eq.mpr c28
                      clear c28
                      by_cases c29 : t145 = 0
                      · rw [if_pos c29] at H
                        have c29b0 : (t145 == 0) = true := beq_iff_eq.mpr c29
                        have c29b1 : (t145 != 0) = false := bne_eq_false_iff_eq.mpr c29
                        clear c29
                        obtain rfl := Option.some.inj H
                        go_wp2_with (first | ((with_reducible refine gate_callee (f := 10) rfl ?_); refine goesL_ (some 63) rfl rfl Tryd.func10 (by kernel_rfl) rfl #[.int .i64 a0] rfl (by (try simp only [List.map_toArray, List.map_cons, List.map_nil]); first | done | rfl | (simp only [List.length_drop, List.length_take]; rfl)) ?_; (with_reducible refine (num_FormatDay.calls kj17 a0 t142 t143 _ A25.out (Gl.of HG.out (by repeat (first | exact HB.out | apply below_alloc | apply pw_below_drewN | apply below_drew1)))).mono ?_); rintro e w30 ⟨rfl, hb⟩; refine ⟨_, rfl, ?_⟩; have n0_ := Aside0.mk (below_step (by repeat (first | (with_reducible first | exact HB.out | apply below_alloc | apply pw_below_drewN | apply below_drew1) | exact HB.out)) hb); clear HB; have HB := n0_; clear n0_; (try clear hb); (try clear hb2); (try clear hk); (try clear hi)) | ((with_reducible refine gate_callee (f := 11) rfl ?_); refine goesL_ (some 80) rfl rfl Tryd.func11 (by kernel_rfl) rfl #[.string t142] rfl (by (try simp only [List.map_toArray, List.map_cons, List.map_nil]); first | done | rfl | (simp only [List.length_drop, List.length_take]; rfl)) ?_; (with_reducible refine (num_ParseDay.calls kj17 t142 t144 t145 _ A27.out).mono ?_); rintro e w31 ⟨rfl, hb⟩; refine ⟨_, rfl, ?_⟩; have n0_ := Aside0.mk (below_step (by repeat (first | (with_reducible first | exact HB.out | apply below_alloc | apply pw_below_drewN | apply below_drew1) | exact HB.out)) hb); clear HB; have HB := n0_; clear n0_; (try clear hb); (try clear hb2); (try clear hk); (try clear hi)))
                        go_ret
                        exact ⟨by first | rfl | (simp [errW_none, errW_some] <;> rfl) | (simp [*, errW_none, errW_some] <;> rfl), by repeat (first | (with_reducible first | exact HB.out | apply below_alloc | apply pw_below_drewN | apply below_drew1) | exact HB.out)⟩
                      · rw [if_neg c29] at H
                        exact absurd H (by simp)
                    · rw [if_neg c28] at H
                      exact absurd H (by simp)
                  · rw [if_neg c26] at H
                    have c26b0 : (t143 == 0) = false := beq_eq_false_iff_ne.mpr c26
                    have c26b1 : (t143 != 0) = true := bne_iff_ne.mpr c26
                    by_cases c32 : t142.toList = ([] : List UInt8)
                    · rw [if_pos c32] at H
                      have c32b0 : (t142.toList == ([] : List UInt8)) = true := beq_iff_eq.mpr c32
                      have c32b1 : (t142.toList != ([] : List UInt8)) = false := bne_eq_false_iff_eq.mpr c32
                      clear c32
                      by_cases c33 : a0 < (-719162)
                      · rw [if_pos c33] at H
                        have c33b0 : decide (a0 < (-719162)) = true := decide_eq_true c33
                        clear c33
                        obtain rfl := Option.some.inj H
                        go_wp2_with (first | ((with_reducible refine gate_callee (f := 10) rfl ?_); refine goesL_ (some 63) rfl rfl Tryd.func10 (by kernel_rfl) rfl #[.int .i64 a0] rfl (by (try simp only [List.map_toArray, List.map_cons, List.map_nil]); first | done | rfl | (simp only [List.length_drop, List.length_take]; rfl)) ?_; (with_reducible refine (num_FormatDay.calls kj17 a0 t142 t143 _ A25.out (Gl.of HG.out (by repeat (first | exact HB.out | apply below_alloc | apply pw_below_drewN | apply below_drew1)))).mono ?_); rintro e w34 ⟨rfl, hb⟩; refine ⟨_, rfl, ?_⟩; have n0_ := Aside0.mk (below_step (by repeat (first | (with_reducible first | exact HB.out | apply below_alloc | apply pw_below_drewN | apply below_drew1) | exact HB.out)) hb); clear HB; have HB := n0_; clear n0_; (try clear hb); (try clear hb2); (try clear hk); (try clear hi)))
                        go_ret
                        exact ⟨by first | rfl | (simp [errW_none, errW_some] <;> rfl) | (simp [*, errW_none, errW_some] <;> rfl), by repeat (first | (with_reducible first | exact HB.out | apply below_alloc | apply pw_below_drewN | apply below_drew1) | exact HB.out)⟩
                      · rw [if_neg c33] at H
                        have c33b0 : decide (a0 < (-719162)) = false := decide_eq_false c33
                        clear c33
                        obtain rfl := Option.some.inj H
                        go_wp2_with (first | ((with_reducible refine gate_callee (f := 10) rfl ?_); refine goesL_ (some 63) rfl rfl Tryd.func10 (by kernel_rfl) rfl #[.int .i64 a0] rfl (by (try simp only [List.map_toArray, List.map_cons, List.map_nil]); first | done | rfl | (simp only [List.length_drop, List.length_take]; rfl)) ?_; (with_reducible refine (num_FormatDay.calls kj17 a0 t142 t143 _ A25.out (Gl.of HG.out (by repeat (first | exact HB.out | apply below_alloc | apply pw_below_drewN | apply below_drew1)))).mono ?_); rintro e w35 ⟨rfl, hb⟩; refine ⟨_, rfl, ?_⟩; have n0_ := Aside0.mk (below_step (by repeat (first | (with_reducible first | exact HB.out | apply below_alloc | apply pw_below_drewN | apply below_drew1) | exact HB.out)) hb); clear HB; have HB := n0_; clear n0_; (try clear hb); (try clear hb2); (try clear hk); (try clear hi)))
                        go_ret
                        exact ⟨by first | rfl | (simp [errW_none, errW_some] <;> rfl) | (simp [*, errW_none, errW_some] <;> rfl), by repeat (first | (with_reducible first | exact HB.out | apply below_alloc | apply pw_below_drewN | apply below_drew1) | exact HB.out)⟩
                    · rw [if_neg c32] at H
                      exact absurd H (by simp)
  · replace c4 := Bool.eq_false_iff.mpr c4
    subst c4
    have H1 : (none) = some r := by rw [if_neg (show ¬ (false = true) by decide)] at H; exact H
    clear H
    have H := H1
    clear H1
    exact absurd H (by simp)

end Go.Proofs.YtgkkbbpcdjogoaaDoor.T
