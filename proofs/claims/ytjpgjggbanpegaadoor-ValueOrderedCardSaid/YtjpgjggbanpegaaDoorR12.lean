/- PRINTED BY A PROGRAM OF THIS SESSION (px.py, over the kit's print): Lean functions with the answers of Go functions of the given program, and proofs that the Go code comes to these answers; each under the conditions that its theorem states. -/
import Derived.Test.YtjpgjggbanpegaaDoorR0
import Derived.Test.YtjpgjggbanpegaaDoorR9
import Derived.Test.YtjpgjggbanpegaaDoorR11
namespace Go.Proofs.YtjpgjggbanpegaaDoor.R
open Go.RowKit Go.Proofs.YtjpgjggbanpegaaDoorW.PrintWords Go.Proofs.YtjpgjggbanpegaaDoorW.PrintLast Go.Proofs.YtjpgjggbanpegaaDoorW.PrintMore
attribute [local go_sem] max2_int min2_int max_two min_two max_three min_three max_four min_four   -- for this text's walks alone
set_option linter.unusedVariables false
set_option linter.unusedSimpArgs false

/-! ### strconv_Itoa: function 70, by hand -/
def strconv_Itoa.f (a0 : Int) : Option (ByteArray) := if -9223372036854775808 ≤ a0 then (if a0 ≤ 9223372036854775807 then some ⟨(Lib.itoa a0).toArray⟩ else none) else none
set_option maxHeartbeats 8000000 in
set_option maxRecDepth 100000 in
theorem strconv_Itoa.calls (a0 : Int) (r : ByteArray) (w : World) (h : strconv_Itoa.f a0 = some r) (hG : Gl w) :
    Calls Tryd.prog 70 #[.int .i64 a0] w fun e w' => e = .returned (.string r) ∧ Below w.heap.size w w' := by
  unfold strconv_Itoa.f at h
  by_cases h1 : -9223372036854775808 ≤ a0
  · rw [if_pos h1] at h
    by_cases h2 : a0 ≤ 9223372036854775807
    · rw [if_pos h2] at h
      obtain rfl := Option.some.inj h
      refine (Tryd.strconv_Itoa a0 h1 h2 w hG.pow).mono ?_
      rintro e w' ⟨rfl, k, os, rfl⟩
      exact ⟨rfl, Lib.below_grow _ _ (Nat.le_refl _) _ _⟩
    · rw [if_neg h2] at h; exact absurd h (by simp)
  · rw [if_neg h1] at h; exact absurd h (by simp)


/-! ### num_FormatDay: function 49 -/
def num_FormatDay.f (k : Nat) (a0 : Int) : Option (ByteArray × Int) := (num_Civil.f k a0).bind fun bt145 => (if bt145.2.2.2 = 0 then ((strconv_Itoa.f bt145.1).bind fun t149 => ((num_pad.f t149 4).bind fun t150 => (if t150.size + 1 ≤ 9223372036854775807 then ((strconv_Itoa.f bt145.2.1).bind fun t151 => ((num_pad.f t151 2).bind fun t152 => (if (t150 ++ (⟨#[45]⟩ : ByteArray)).size + t152.size ≤ 9223372036854775807 then (if ((t150 ++ (⟨#[45]⟩ : ByteArray)) ++ t152).size + 1 ≤ 9223372036854775807 then ((strconv_Itoa.f bt145.2.2.1).bind fun t153 => ((num_pad.f t153 2).bind fun t154 => (if (((t150 ++ (⟨#[45]⟩ : ByteArray)) ++ t152) ++ (⟨#[45]⟩ : ByteArray)).size + t154.size ≤ 9223372036854775807 then (some ((((t150 ++ (⟨#[45]⟩ : ByteArray)) ++ t152) ++ (⟨#[45]⟩ : ByteArray)) ++ t154, 0)) else (none)))) else (none)) else (none)))) else (none)))) else (some ((⟨#[]⟩ : ByteArray), bt145.2.2.2)))
theorem num_FormatDay.mono : ∀ a0 k, LeO (num_FormatDay.f k a0) (num_FormatDay.f (k + 1) a0) := by
  intro a0 k
  unfold num_FormatDay.f
  repeat' first
      | (with_reducible exact num_Civil.mono _ _)
      | (with_reducible exact LeO.refl _)
      | (with_reducible exact LeO.none _)
      | (with_reducible refine LeO.ite ?_ ?_)
      | (with_reducible refine LeO.bind ?_ (fun _ => ?_))
      | exact num_Civil.mono _ _
      | exact LeO.none _
      | refine LeO.ite ?_ ?_
      | refine LeO.bind ?_ (fun _ => ?_)
set_option maxHeartbeats 8000000 in
set_option maxRecDepth 100000 in
theorem num_FormatDay.calls (k : Nat) (a0 : Int) (r1 : ByteArray) (r2 : Int) (w : World) (h : num_FormatDay.f k a0 = some (r1, r2)) (hG : Gl w) :
    Calls Tryd.prog 49 #[.int .i64 a0] w fun e w' => e = .returned (.tuple #[.string r1, .int .i64 r2]) ∧ Below w.heap.size w w' := by
  have HG := Aside0.mk hG
  clear hG
  have HB := Aside0.mk (Below.refl w.heap.size w)
  have H : ((num_Civil.f k a0).bind fun bt145 => (if bt145.2.2.2 = 0 then ((strconv_Itoa.f bt145.1).bind fun t149 => ((num_pad.f t149 4).bind fun t150 => (if t150.size + 1 ≤ 9223372036854775807 then ((strconv_Itoa.f bt145.2.1).bind fun t151 => ((num_pad.f t151 2).bind fun t152 => (if (t150 ++ (⟨#[45]⟩ : ByteArray)).size + t152.size ≤ 9223372036854775807 then (if ((t150 ++ (⟨#[45]⟩ : ByteArray)) ++ t152).size + 1 ≤ 9223372036854775807 then ((strconv_Itoa.f bt145.2.2.1).bind fun t153 => ((num_pad.f t153 2).bind fun t154 => (if (((t150 ++ (⟨#[45]⟩ : ByteArray)) ++ t152) ++ (⟨#[45]⟩ : ByteArray)).size + t154.size ≤ 9223372036854775807 then (some ((((t150 ++ (⟨#[45]⟩ : ByteArray)) ++ t152) ++ (⟨#[45]⟩ : ByteArray)) ++ t154, 0)) else (none)))) else (none)) else (none)))) else (none)))) else (some ((⟨#[]⟩ : ByteArray), bt145.2.2.2)))) = some (r1, r2) := h
  clear h
  replace H := Option.bind_eq_some_iff.mp H
  obtain ⟨⟨t145, t146, t147, t148⟩, A20, H⟩ := H
  replace H : (if t148 = 0 then ((strconv_Itoa.f t145).bind fun t149 => ((num_pad.f t149 4).bind fun t150 => (if t150.size + 1 ≤ 9223372036854775807 then ((strconv_Itoa.f t146).bind fun t151 => ((num_pad.f t151 2).bind fun t152 => (if (t150 ++ (⟨#[45]⟩ : ByteArray)).size + t152.size ≤ 9223372036854775807 then (if ((t150 ++ (⟨#[45]⟩ : ByteArray)) ++ t152).size + 1 ≤ 9223372036854775807 then ((strconv_Itoa.f t147).bind fun t153 => ((num_pad.f t153 2).bind fun t154 => (if (((t150 ++ (⟨#[45]⟩ : ByteArray)) ++ t152) ++ (⟨#[45]⟩ : ByteArray)).size + t154.size ≤ 9223372036854775807 then (some ((((t150 ++ (⟨#[45]⟩ : ByteArray)) ++ t152) ++ (⟨#[45]⟩ : ByteArray)) ++ t154, 0)) else (none)))) else (none)) else (none)))) else (none)))) else (some ((⟨#[]⟩ : ByteArray), t148))) = some (r1, r2) := H
  have A2 := Aside0.mk A20
  clear A20
  by_cases c3 : t148 = 0
  · rw [if_pos c3] at H
    have c3b0 : (t148 == 0) = true := beq_iff_eq.mpr c3
    have c3b1 : (t148 != 0) = false := bne_eq_false_iff_eq.mpr c3
    clear c3
    replace H := Option.bind_eq_some_iff.mp H
    obtain ⟨t149, A40, H⟩ := H
    replace H : ((num_pad.f t149 4).bind fun t150 => (if t150.size + 1 ≤ 9223372036854775807 then ((strconv_Itoa.f t146).bind fun t151 => ((num_pad.f t151 2).bind fun t152 => (if (t150 ++ (⟨#[45]⟩ : ByteArray)).size + t152.size ≤ 9223372036854775807 then (if ((t150 ++ (⟨#[45]⟩ : ByteArray)) ++ t152).size + 1 ≤ 9223372036854775807 then ((strconv_Itoa.f t147).bind fun t153 => ((num_pad.f t153 2).bind fun t154 => (if (((t150 ++ (⟨#[45]⟩ : ByteArray)) ++ t152) ++ (⟨#[45]⟩ : ByteArray)).size + t154.size ≤ 9223372036854775807 then (some ((((t150 ++ (⟨#[45]⟩ : ByteArray)) ++ t152) ++ (⟨#[45]⟩ : ByteArray)) ++ t154, 0)) else (none)))) else (none)) else (none)))) else (none))) = some (r1, r2) := H
    have A4 := Aside0.mk A40
    clear A40
    replace H := Option.bind_eq_some_iff.mp H
    obtain ⟨t150, A50, H⟩ := H
    replace H : (if t150.size + 1 ≤ 9223372036854775807 then ((strconv_Itoa.f t146).bind fun t151 => ((num_pad.f t151 2).bind fun t152 => (if (t150 ++ (⟨#[45]⟩ : ByteArray)).size + t152.size ≤ 9223372036854775807 then (if ((t150 ++ (⟨#[45]⟩ : ByteArray)) ++ t152).size + 1 ≤ 9223372036854775807 then ((strconv_Itoa.f t147).bind fun t153 => ((num_pad.f t153 2).bind fun t154 => (if (((t150 ++ (⟨#[45]⟩ : ByteArray)) ++ t152) ++ (⟨#[45]⟩ : ByteArray)).size + t154.size ≤ 9223372036854775807 then (some ((((t150 ++ (⟨#[45]⟩ : ByteArray)) ++ t152) ++ (⟨#[45]⟩ : ByteArray)) ++ t154, 0)) else (none)))) else (none)) else (none)))) else (none)) = some (r1, r2) := H
    have A5 := Aside0.mk A50
    clear A50
    by_cases c6 : t150.size + 1 ≤ 9223372036854775807
    · rw [if_pos c6] at H
      have c6b0 := eq_true c6
      (try (have c6n := c6; simp [size_lit] at c6n))
      have c6b1 : decide (t150.size + 1 ≤ 9223372036854775807) = true := decide_eq_true c6
      try have c6b2 : (9223372036854775807 < t150.size + 1) = False := eq_false (Nat.not_lt.2 c6)
      replace H := Option.bind_eq_some_iff.mp H
      obtain ⟨t151, A70, H⟩ := H
      replace H : ((num_pad.f t151 2).bind fun t152 => (if (t150 ++ (⟨#[45]⟩ : ByteArray)).size + t152.size ≤ 9223372036854775807 then (if ((t150 ++ (⟨#[45]⟩ : ByteArray)) ++ t152).size + 1 ≤ 9223372036854775807 then ((strconv_Itoa.f t147).bind fun t153 => ((num_pad.f t153 2).bind fun t154 => (if (((t150 ++ (⟨#[45]⟩ : ByteArray)) ++ t152) ++ (⟨#[45]⟩ : ByteArray)).size + t154.size ≤ 9223372036854775807 then (some ((((t150 ++ (⟨#[45]⟩ : ByteArray)) ++ t152) ++ (⟨#[45]⟩ : ByteArray)) ++ t154, 0)) else (none)))) else (none)) else (none))) = some (r1, r2) := H
      have A7 := Aside0.mk A70
      clear A70
      replace H := Option.bind_eq_some_iff.mp H
      obtain ⟨t152, A80, H⟩ := H
      replace H : (if (t150 ++ (⟨#[45]⟩ : ByteArray)).size + t152.size ≤ 9223372036854775807 then (if ((t150 ++ (⟨#[45]⟩ : ByteArray)) ++ t152).size + 1 ≤ 9223372036854775807 then ((strconv_Itoa.f t147).bind fun t153 => ((num_pad.f t153 2).bind fun t154 => (if (((t150 ++ (⟨#[45]⟩ : ByteArray)) ++ t152) ++ (⟨#[45]⟩ : ByteArray)).size + t154.size ≤ 9223372036854775807 then (some ((((t150 ++ (⟨#[45]⟩ : ByteArray)) ++ t152) ++ (⟨#[45]⟩ : ByteArray)) ++ t154, 0)) else (none)))) else (none)) else (none)) = some (r1, r2) := H
      have A8 := Aside0.mk A80
      clear A80
      by_cases c9 : (t150 ++ (⟨#[45]⟩ : ByteArray)).size + t152.size ≤ 9223372036854775807
      · rw [if_pos c9] at H
        have c9b0 := eq_true c9
        (try (have c9n := c9; simp [size_lit] at c9n))
        have c9b1 : decide ((t150 ++ (⟨#[45]⟩ : ByteArray)).size + t152.size ≤ 9223372036854775807) = true := decide_eq_true c9
        try have c9b2 : (9223372036854775807 < (t150 ++ (⟨#[45]⟩ : ByteArray)).size + t152.size) = False := eq_false (Nat.not_lt.2 c9)
        by_cases c10 : ((t150 ++ (⟨#[45]⟩ : ByteArray)) ++ t152).size + 1 ≤ 9223372036854775807
        · rw [if_pos c10] at H
          have c10b0 := eq_true c10
          (try (have c10n := c10; simp [size_lit] at c10n))
          have c10b1 : decide (((t150 ++ (⟨#[45]⟩ : ByteArray)) ++ t152).size + 1 ≤ 9223372036854775807) = true := decide_eq_true c10
          try have c10b2 : (9223372036854775807 < ((t150 ++ (⟨#[45]⟩ : ByteArray)) ++ t152).size + 1) = False := eq_false (Nat.not_lt.2 c10)
          replace H := Option.bind_eq_some_iff.mp H
          obtain ⟨t153, A110, H⟩ := H
          replace H : ((num_pad.f t153 2).bind fun t154 => (if (((t150 ++ (⟨#[45]⟩ : ByteArray)) ++ t152) ++ (⟨#[45]⟩ : ByteArray)).size + t154.size ≤ 9223372036854775807 then (some ((((t150 ++ (⟨#[45]⟩ : ByteArray)) ++ t152) ++ (⟨#[45]⟩ : ByteArray)) ++ t154, 0)) else (none))) = some (r1, r2) := H
          have A11 := Aside0.mk A110
          clear A110
          replace H := Option.bind_eq_some_iff.mp H
          obtain ⟨t154, A120, H⟩ := H
          replace H : (if (((t150 ++ (⟨#[45]⟩ : ByteArray)) ++ t152) ++ (⟨#[45]⟩ : ByteArray)).size + t154.size ≤ 9223372036854775807 then (some ((((t150 ++ (⟨#[45]⟩ : ByteArray)) ++ t152) ++ (⟨#[45]⟩ : ByteArray)) ++ t154, 0)) else (none)) = some (r1, r2) := H
          have A12 := Aside0.mk A120
          clear A120
          by_cases c13 : (((t150 ++ (⟨#[45]⟩ : ByteArray)) ++ t152) ++ (⟨#[45]⟩ : ByteArray)).size + t154.size ≤ 9223372036854775807
          · rw [if_pos c13] at H
            have c13b0 := eq_true c13
            (try (have c13n := c13; simp [size_lit] at c13n))
            have c13b1 : decide ((((t150 ++ (⟨#[45]⟩ : ByteArray)) ++ t152) ++ (⟨#[45]⟩ : ByteArray)).size + t154.size ≤ 9223372036854775807) = true := decide_eq_true c13
            try have c13b2 : (9223372036854775807 < (((t150 ++ (⟨#[45]⟩ : ByteArray)) ++ t152) ++ (⟨#[45]⟩ : ByteArray)).size + t154.size) = False := eq_false (Nat.not_lt.2 c13)
            simp only [Option.some.injEq, Prod.mk.injEq] at H
            obtain ⟨rfl, rfl⟩ := H
            go_enter Tryd.func49, Tryd.ntmps49
            go_wp2_with (first | ((with_reducible refine gate_callee (f := 69) rfl ?_); refine goesL_ (some 10) rfl rfl Tryd.func69 (by kernel_rfl) rfl #[.int .i64 a0] rfl (by (try simp only [List.map_toArray, List.map_cons, List.map_nil]); first | done | rfl | (simp only [List.length_drop, List.length_take]; rfl)) ?_; (with_reducible refine (num_Civil.calls k a0 t145 t146 t147 t148 _ A2.out).mono ?_); rintro e w' ⟨rfl, ⟨nd, rfl⟩⟩; refine ⟨_, rfl, ?_⟩) | ((with_reducible refine gate_callee (f := 70) rfl ?_); refine goesL_ (some 19) rfl rfl Tryd.func70 (by kernel_rfl) rfl #[.int .i64 t145] rfl (by (try simp only [List.map_toArray, List.map_cons, List.map_nil]); first | done | rfl | (simp only [List.length_drop, List.length_take]; rfl)) ?_; (with_reducible refine (strconv_Itoa.calls t145 t149 _ A4.out (Gl.of HG.out (by repeat (first | exact HB.out | apply below_alloc | apply pw_below_drewN | apply below_drew1)))).mono ?_); rintro e w14 ⟨rfl, hb⟩; refine ⟨_, rfl, ?_⟩; have n0_ := Aside0.mk (below_step (by repeat (first | (with_reducible first | exact HB.out | apply below_alloc | apply pw_below_drewN | apply below_drew1) | exact HB.out)) hb); clear HB; have HB := n0_; clear n0_; (try clear hb); (try clear hb2); (try clear hk); (try clear hi)) | ((with_reducible refine gate_callee (f := 68) rfl ?_); refine goesL_ (some 20) rfl rfl Tryd.func68 (by kernel_rfl) rfl #[.string t149, .int .i64 4] rfl (by (try simp only [List.map_toArray, List.map_cons, List.map_nil]); first | done | rfl | (simp only [List.length_drop, List.length_take]; rfl)) ?_; (with_reducible refine (num_pad.calls t149 4 t150 _ A5.out).mono ?_); rintro e w15 ⟨rfl, hb⟩; refine ⟨_, rfl, ?_⟩; have n0_ := Aside0.mk (below_step (by repeat (first | (with_reducible first | exact HB.out | apply below_alloc | apply pw_below_drewN | apply below_drew1) | exact HB.out)) hb); clear HB; have HB := n0_; clear n0_; (try clear hb); (try clear hb2); (try clear hk); (try clear hi)) | ((with_reducible refine gate_callee (f := 70) rfl ?_); refine goesL_ (some 23) rfl rfl Tryd.func70 (by kernel_rfl) rfl #[.int .i64 t146] rfl (by (try simp only [List.map_toArray, List.map_cons, List.map_nil]); first | done | rfl | (simp only [List.length_drop, List.length_take]; rfl)) ?_; (with_reducible refine (strconv_Itoa.calls t146 t151 _ A7.out (Gl.of HG.out (by repeat (first | exact HB.out | apply below_alloc | apply pw_below_drewN | apply below_drew1)))).mono ?_); rintro e w16 ⟨rfl, hb⟩; refine ⟨_, rfl, ?_⟩; have n0_ := Aside0.mk (below_step (by repeat (first | (with_reducible first | exact HB.out | apply below_alloc | apply pw_below_drewN | apply below_drew1) | exact HB.out)) hb); clear HB; have HB := n0_; clear n0_; (try clear hb); (try clear hb2); (try clear hk); (try clear hi)) | ((with_reducible refine gate_callee (f := 68) rfl ?_); refine goesL_ (some 24) rfl rfl Tryd.func68 (by kernel_rfl) rfl #[.string t151, .int .i64 2] rfl (by (try simp only [List.map_toArray, List.map_cons, List.map_nil]); first | done | rfl | (simp only [List.length_drop, List.length_take]; rfl)) ?_; (with_reducible refine (num_pad.calls t151 2 t152 _ A8.out).mono ?_); rintro e w17 ⟨rfl, hb⟩; refine ⟨_, rfl, ?_⟩; have n0_ := Aside0.mk (below_step (by repeat (first | (with_reducible first | exact HB.out | apply below_alloc | apply pw_below_drewN | apply below_drew1) | exact HB.out)) hb); clear HB; have HB := n0_; clear n0_; (try clear hb); (try clear hb2); (try clear hk); (try clear hi)) | ((with_reducible refine gate_callee (f := 70) rfl ?_); refine goesL_ (some 28) rfl rfl Tryd.func70 (by kernel_rfl) rfl #[.int .i64 t147] rfl (by (try simp only [List.map_toArray, List.map_cons, List.map_nil]); first | done | rfl | (simp only [List.length_drop, List.length_take]; rfl)) ?_; (with_reducible refine (strconv_Itoa.calls t147 t153 _ A11.out (Gl.of HG.out (by repeat (first | exact HB.out | apply below_alloc | apply pw_below_drewN | apply below_drew1)))).mono ?_); rintro e w18 ⟨rfl, hb⟩; refine ⟨_, rfl, ?_⟩; have n0_ := Aside0.mk (below_step (by repeat (first | (with_reducible first | exact HB.out | apply below_alloc | apply pw_below_drewN | apply below_drew1) | exact HB.out)) hb); clear HB; have HB := n0_; clear n0_; (try clear hb); (try clear hb2); (try clear hk); (try clear hi)) | ((with_reducible refine gate_callee (f := 68) rfl ?_); refine goesL_ (some 29) rfl rfl Tryd.func68 (by kernel_rfl) rfl #[.string t153, .int .i64 2] rfl (by (try simp only [List.map_toArray, List.map_cons, List.map_nil]); first | done | rfl | (simp only [List.length_drop, List.length_take]; rfl)) ?_; (with_reducible refine (num_pad.calls t153 2 t154 _ A12.out).mono ?_); rintro e w19 ⟨rfl, hb⟩; refine ⟨_, rfl, ?_⟩; have n0_ := Aside0.mk (below_step (by repeat (first | (with_reducible first | exact HB.out | apply below_alloc | apply pw_below_drewN | apply below_drew1) | exact HB.out)) hb); clear HB; have HB := n0_; clear n0_; (try clear hb); (try clear hb2); (try clear hk); (try clear hi)))
            go_ret2
            exact ⟨by first | rfl | (simp [errW_none, errW_some] <;> rfl) | (simp [*, errW_none, errW_some] <;> rfl), by repeat (first | (with_reducible first | exact HB.out | apply below_alloc | apply pw_below_drewN | apply below_drew1) | exact HB.out)⟩
          · rw [if_neg c13] at H
            exact absurd H (by simp)
        · rw [if_neg c10] at H
          exact absurd H (by simp)
      · rw [if_neg c9] at H
        exact absurd H (by simp)
    · rw [if_neg c6] at H
      exact absurd H (by simp)
  · rw [if_neg c3] at H
    have c3b0 : (t148 == 0) = false := beq_eq_false_iff_ne.mpr c3
    have c3b1 : (t148 != 0) = true := bne_iff_ne.mpr c3
    simp only [Option.some.injEq, Prod.mk.injEq] at H
    obtain ⟨rfl, rfl⟩ := H
    go_enter Tryd.func49, Tryd.ntmps49
    go_wp2_with (first | ((with_reducible refine gate_callee (f := 69) rfl ?_); refine goesL_ (some 10) rfl rfl Tryd.func69 (by kernel_rfl) rfl #[.int .i64 a0] rfl (by (try simp only [List.map_toArray, List.map_cons, List.map_nil]); first | done | rfl | (simp only [List.length_drop, List.length_take]; rfl)) ?_; (with_reducible refine (num_Civil.calls k a0 t145 t146 t147 t148 _ A2.out).mono ?_); rintro e w' ⟨rfl, ⟨nd, rfl⟩⟩; refine ⟨_, rfl, ?_⟩))
    go_ret2
    exact ⟨by first | rfl | (simp [errW_none, errW_some] <;> rfl) | (simp [*, errW_none, errW_some] <;> rfl), by repeat (first | (with_reducible first | exact HB.out | apply below_alloc | apply pw_below_drewN | apply below_drew1) | exact HB.out)⟩

end Go.Proofs.YtjpgjggbanpegaaDoor.R
