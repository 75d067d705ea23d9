/- PRINTED BY A PROGRAM OF THIS SESSION (px.py, over the kit's print): Lean functions with the answers of Go functions of the given program, and proofs that the Go code comes to these answers; each under the conditions that its theorem states. -/
import Derived.Test.YtmjpdhledcfjaaaDoorR0
import Derived.Test.YtmjpdhledcfjaaaDoorR4
import Derived.Test.YtmjpdhledcfjaaaDoorR9
import Derived.Test.YtmjpdhledcfjaaaDoorR10
import Derived.Test.YtmjpdhledcfjaaaDoorR13
namespace Go.Proofs.YtmjpdhledcfjaaaDoor.R
open Go.RowKit Go.Proofs.YtmjpdhledcfjaaaDoorW.PrintWords Go.Proofs.YtmjpdhledcfjaaaDoorW.PrintLast Go.Proofs.YtmjpdhledcfjaaaDoorW.PrintMore
attribute [local go_sem] max2_int min2_int max_two min_two max_three min_three max_four min_four   -- for this text's walks alone
set_option linter.unusedVariables false
set_option linter.unusedSimpArgs false

/-! ### strconv_Itoa: function 63, by hand -/
def strconv_Itoa.f (a0 : Int) : Option (ByteArray) := if -9223372036854775808 ≤ a0 then (if a0 ≤ 9223372036854775807 then some ⟨(Lib.itoa a0).toArray⟩ else none) else none
set_option maxHeartbeats 8000000 in
set_option maxRecDepth 100000 in
theorem strconv_Itoa.calls (a0 : Int) (r : ByteArray) (w : World) (h : strconv_Itoa.f a0 = some r) (hG : Gl w) :
    Calls Tryd.prog 63 #[.int .i64 a0] w fun e w' => e = .returned (.string r) ∧ Below w.heap.size w w' := by
  unfold strconv_Itoa.f at h
  by_cases h1 : -9223372036854775808 ≤ a0
  · rw [if_pos h1] at h
    by_cases h2 : a0 ≤ 9223372036854775807
    · rw [if_pos h2] at h
      obtain rfl := Option.some.inj h
      refine (Tryd.strconv_Itoa a0 h1 h2 w hG.pow).mono ?_
      rintro e w' ⟨rfl, k, os, rfl⟩
      exact ⟨rfl, Lib.below_grow _ _ (Nat.le_refl _) _ _⟩
    · rw [if_neg h2] at h; exact absurd h (by simp)
  · rw [if_neg h1] at h; exact absurd h (by simp)


/-! ### num_FormatDay: function 28 -/
def num_FormatDay.f (k : Nat) (a0 : Int) : Option (ByteArray × Int) := (num_Civil.f k a0).bind fun bt208 => (if bt208.2.2.2 = 0 then ((strconv_Itoa.f bt208.1).bind fun t212 => ((num_pad.f t212 4).bind fun t213 => (if t213.size + 1 ≤ 9223372036854775807 then ((strconv_Itoa.f bt208.2.1).bind fun t214 => ((num_pad.f t214 2).bind fun t215 => (if (t213 ++ (⟨#[45]⟩ : ByteArray)).size + t215.size ≤ 9223372036854775807 then (if ((t213 ++ (⟨#[45]⟩ : ByteArray)) ++ t215).size + 1 ≤ 9223372036854775807 then ((strconv_Itoa.f bt208.2.2.1).bind fun t216 => ((num_pad.f t216 2).bind fun t217 => (if (((t213 ++ (⟨#[45]⟩ : ByteArray)) ++ t215) ++ (⟨#[45]⟩ : ByteArray)).size + t217.size ≤ 9223372036854775807 then (some ((((t213 ++ (⟨#[45]⟩ : ByteArray)) ++ t215) ++ (⟨#[45]⟩ : ByteArray)) ++ t217, 0)) else (none)))) else (none)) else (none)))) else (none)))) else (some ((⟨#[]⟩ : ByteArray), bt208.2.2.2)))
theorem num_FormatDay.mono : ∀ a0 k, LeO (num_FormatDay.f k a0) (num_FormatDay.f (k + 1) a0) := by
  intro a0 k
  unfold num_FormatDay.f
  repeat' first
      | (with_reducible exact num_Civil.mono _ _)
      | (with_reducible exact LeO.refl _)
      | (with_reducible exact LeO.none _)
      | (with_reducible refine LeO.ite ?_ ?_)
      | (with_reducible refine LeO.bind ?_ (fun _ => ?_))
      | exact num_Civil.mono _ _
      | exact LeO.none _
      | refine LeO.ite ?_ ?_
      | refine LeO.bind ?_ (fun _ => ?_)
set_option maxHeartbeats 8000000 in
set_option maxRecDepth 100000 in
theorem num_FormatDay.calls (k : Nat) (a0 : Int) (r1 : ByteArray) (r2 : Int) (w : World) (h : num_FormatDay.f k a0 = some (r1, r2)) (hG : Gl w) :
    Calls Tryd.prog 28 #[.int .i64 a0] w fun e w' => e = .returned (.tuple #[.string r1, .int .i64 r2]) ∧ Below w.heap.size w w' := by
  have HG := Aside0.mk hG
  clear hG
  have HB := Aside0.mk (Below.refl w.heap.size w)
  have H : ((num_Civil.f k a0).bind fun bt208 => (if bt208.2.2.2 = 0 then ((strconv_Itoa.f bt208.1).bind fun t212 => ((num_pad.f t212 4).bind fun t213 => (if t213.size + 1 ≤ 9223372036854775807 then ((strconv_Itoa.f bt208.2.1).bind fun t214 => ((num_pad.f t214 2).bind fun t215 => (if (t213 ++ (⟨#[45]⟩ : ByteArray)).size + t215.size ≤ 9223372036854775807 then (if ((t213 ++ (⟨#[45]⟩ : ByteArray)) ++ t215).size + 1 ≤ 9223372036854775807 then ((strconv_Itoa.f bt208.2.2.1).bind fun t216 => ((num_pad.f t216 2).bind fun t217 => (if (((t213 ++ (⟨#[45]⟩ : ByteArray)) ++ t215) ++ (⟨#[45]⟩ : ByteArray)).size + t217.size ≤ 9223372036854775807 then (some ((((t213 ++ (⟨#[45]⟩ : ByteArray)) ++ t215) ++ (⟨#[45]⟩ : ByteArray)) ++ t217, 0)) else (none)))) else (none)) else (none)))) else (none)))) else (some ((⟨#[]⟩ : ByteArray), bt208.2.2.2)))) = some (r1, r2) := h
  clear h
  replace H := Option.bind_eq_some_iff.mp H
  obtain ⟨⟨t208, t209, t210, t211⟩, A20, H⟩ := H
  replace H : (if t211 = 0 then ((strconv_Itoa.f t208).bind fun t212 => ((num_pad.f t212 4).bind fun t213 => (if t213.size + 1 ≤ 9223372036854775807 then ((strconv_Itoa.f t209).bind fun t214 => ((num_pad.f t214 2).bind fun t215 => (if (t213 ++ (⟨#[45]⟩ : ByteArray)).size + t215.size ≤ 9223372036854775807 then (if ((t213 ++ (⟨#[45]⟩ : ByteArray)) ++ t215).size + 1 ≤ 9223372036854775807 then ((strconv_Itoa.f t210).bind fun t216 => ((num_pad.f t216 2).bind fun t217 => (if (((t213 ++ (⟨#[45]⟩ : ByteArray)) ++ t215) ++ (⟨#[45]⟩ : ByteArray)).size + t217.size ≤ 9223372036854775807 then (some ((((t213 ++ (⟨#[45]⟩ : ByteArray)) ++ t215) ++ (⟨#[45]⟩ : ByteArray)) ++ t217, 0)) else (none)))) else (none)) else (none)))) else (none)))) else (some ((⟨#[]⟩ : ByteArray), t211))) = some (r1, r2) := H
  have A2 := Aside0.mk A20
  clear A20
  by_cases c3 : t211 = 0
  · rw [if_pos c3] at H
    have c3b0 : (t211 == 0) = true := beq_iff_eq.mpr c3
    have c3b1 : (t211 != 0) = false := bne_eq_false_iff_eq.mpr c3
    clear c3
    replace H := Option.bind_eq_some_iff.mp H
    obtain ⟨t212, A40, H⟩ := H
    replace H : ((num_pad.f t212 4).bind fun t213 => (if t213.size + 1 ≤ 9223372036854775807 then ((strconv_Itoa.f t209).bind fun t214 => ((num_pad.f t214 2).bind fun t215 => (if (t213 ++ (⟨#[45]⟩ : ByteArray)).size + t215.size ≤ 9223372036854775807 then (if ((t213 ++ (⟨#[45]⟩ : ByteArray)) ++ t215).size + 1 ≤ 9223372036854775807 then ((strconv_Itoa.f t210).bind fun t216 => ((num_pad.f t216 2).bind fun t217 => (if (((t213 ++ (⟨#[45]⟩ : ByteArray)) ++ t215) ++ (⟨#[45]⟩ : ByteArray)).size + t217.size ≤ 9223372036854775807 then (some ((((t213 ++ (⟨#[45]⟩ : ByteArray)) ++ t215) ++ (⟨#[45]⟩ : ByteArray)) ++ t217, 0)) else (none)))) else (none)) else (none)))) else (none))) = some (r1, r2) := H
    have A4 := Aside0.mk A40
    clear A40
    replace H := Option.bind_eq_some_iff.mp H
    obtain ⟨t213, A50, H⟩ := H
    replace H : (if t213.size + 1 ≤ 9223372036854775807 then ((strconv_Itoa.f t209).bind fun t214 => ((num_pad.f t214 2).bind fun t215 => (if (t213 ++ (⟨#[45]⟩ : ByteArray)).size + t215.size ≤ 9223372036854775807 then (if ((t213 ++ (⟨#[45]⟩ : ByteArray)) ++ t215).size + 1 ≤ 9223372036854775807 then ((strconv_Itoa.f t210).bind fun t216 => ((num_pad.f t216 2).bind fun t217 => (if (((t213 ++ (⟨#[45]⟩ : ByteArray)) ++ t215) ++ (⟨#[45]⟩ : ByteArray)).size + t217.size ≤ 9223372036854775807 then (some ((((t213 ++ (⟨#[45]⟩ : ByteArray)) ++ t215) ++ (⟨#[45]⟩ : ByteArray)) ++ t217, 0)) else (none)))) else (none)) else (none)))) else (none)) = some (r1, r2) := H
    have A5 := Aside0.mk A50
    clear A50
    by_cases c6 : t213.size + 1 ≤ 9223372036854775807
    · rw [if_pos c6] at H
      have c6b0 := eq_true c6
      (try (have c6n := c6; simp [size_lit] at c6n))
      have c6b1 : decide (t213.size + 1 ≤ 9223372036854775807) = true := decide_eq_true c6
      try have c6b2 : (9223372036854775807 < t213.size + 1) = False := eq_false (Nat.not_lt.2 c6)
      replace H := Option.bind_eq_some_iff.mp H
      obtain ⟨t214, A70, H⟩ := H
      replace H : ((num_pad.f t214 2).bind fun t215 => (if (t213 ++ (⟨#[45]⟩ : ByteArray)).size + t215.size ≤ 9223372036854775807 then (if ((t213 ++ (⟨#[45]⟩ : ByteArray)) ++ t215).size + 1 ≤ 9223372036854775807 then ((strconv_Itoa.f t210).bind fun t216 => ((num_pad.f t216 2).bind fun t217 => (if (((t213 ++ (⟨#[45]⟩ : ByteArray)) ++ t215) ++ (⟨#[45]⟩ : ByteArray)).size + t217.size ≤ 9223372036854775807 then (some ((((t213 ++ (⟨#[45]⟩ : ByteArray)) ++ t215) ++ (⟨#[45]⟩ : ByteArray)) ++ t217, 0)) else (none)))) else (none)) else (none))) = some (r1, r2) := H
      have A7 := Aside0.mk A70
      clear A70
      replace H := Option.bind_eq_some_iff.mp H
      obtain ⟨t215, A80, H⟩ := H
      replace H : (if (t213 ++ (⟨#[45]⟩ : ByteArray)).size + t215.size ≤ 9223372036854775807 then (if ((t213 ++ (⟨#[45]⟩ : ByteArray)) ++ t215).size + 1 ≤ 9223372036854775807 then ((strconv_Itoa.f t210).bind fun t216 => ((num_pad.f t216 2).bind fun t217 => (if (((t213 ++ (⟨#[45]⟩ : ByteArray)) ++ t215) ++ (⟨#[45]⟩ : ByteArray)).size + t217.size ≤ 9223372036854775807 then (some ((((t213 ++ (⟨#[45]⟩ : ByteArray)) ++ t215) ++ (⟨#[45]⟩ : ByteArray)) ++ t217, 0)) else (none)))) else (none)) else (none)) = some (r1, r2) := H
      have A8 := Aside0.mk A80
      clear A80
      by_cases c9 : (t213 ++ (⟨#[45]⟩ : ByteArray)).size + t215.size ≤ 9223372036854775807
      · rw [if_pos c9] at H
        have c9b0 := eq_true c9
        (try (have c9n := c9; simp [size_lit] at c9n))
        have c9b1 : decide ((t213 ++ (⟨#[45]⟩ : ByteArray)).size + t215.size ≤ 9223372036854775807) = true := decide_eq_true c9
        try have c9b2 : (9223372036854775807 < (t213 ++ (⟨#[45]⟩ : ByteArray)).size + t215.size) = False := eq_false (Nat.not_lt.2 c9)
        by_cases c10 : ((t213 ++ (⟨#[45]⟩ : ByteArray)) ++ t215).size + 1 ≤ 9223372036854775807
        · rw [if_pos c10] at H
          have c10b0 := eq_true c10
          (try (have c10n := c10; simp [size_lit] at c10n))
          have c10b1 : decide (((t213 ++ (⟨#[45]⟩ : ByteArray)) ++ t215).size + 1 ≤ 9223372036854775807) = true := decide_eq_true c10
          try have c10b2 : (9223372036854775807 < ((t213 ++ (⟨#[45]⟩ : ByteArray)) ++ t215).size + 1) = False := eq_false (Nat.not_lt.2 c10)
          replace H := Option.bind_eq_some_iff.mp H
          obtain ⟨t216, A110, H⟩ := H
          replace H : ((num_pad.f t216 2).bind fun t217 => (if (((t213 ++ (⟨#[45]⟩ : ByteArray)) ++ t215) ++ (⟨#[45]⟩ : ByteArray)).size + t217.size ≤ 9223372036854775807 then (some ((((t213 ++ (⟨#[45]⟩ : ByteArray)) ++ t215) ++ (⟨#[45]⟩ : ByteArray)) ++ t217, 0)) else (none))) = some (r1, r2) := H
          have A11 := Aside0.mk A110
          clear A110
          replace H := Option.bind_eq_some_iff.mp H
          obtain ⟨t217, A120, H⟩ := H
          replace H : (if (((t213 ++ (⟨#[45]⟩ : ByteArray)) ++ t215) ++ (⟨#[45]⟩ : ByteArray)).size + t217.size ≤ 9223372036854775807 then (some ((((t213 ++ (⟨#[45]⟩ : ByteArray)) ++ t215) ++ (⟨#[45]⟩ : ByteArray)) ++ t217, 0)) else (none)) = some (r1, r2) := H
          have A12 := Aside0.mk A120
          clear A120
          by_cases c13 : (((t213 ++ (⟨#[45]⟩ : ByteArray)) ++ t215) ++ (⟨#[45]⟩ : ByteArray)).size + t217.size ≤ 9223372036854775807
          · rw [if_pos c13] at H
            have c13b0 := eq_true c13
            (try (have c13n := c13; simp [size_lit] at c13n))
            have c13b1 : decide ((((t213 ++ (⟨#[45]⟩ : ByteArray)) ++ t215) ++ (⟨#[45]⟩ : ByteArray)).size + t217.size ≤ 9223372036854775807) = true := decide_eq_true c13
            try have c13b2 : (9223372036854775807 < (((t213 ++ (⟨#[45]⟩ : ByteArray)) ++ t215) ++ (⟨#[45]⟩ : ByteArray)).size + t217.size) = False := eq_false (Nat.not_lt.2 c13)
            simp only [Option.some.injEq, Prod.mk.injEq] at H
            obtain ⟨rfl, rfl⟩ := H
            go_enter Tryd.func28, Tryd.ntmps28
            go_wp2_with (first | ((with_reducible refine gate_callee (f := 24) rfl ?_); refine goesL_ (some 10) rfl rfl Tryd.func24 (by kernel_rfl) rfl #[.int .i64 a0] rfl (by (try simp only [List.map_toArray, List.map_cons, List.map_nil]); first | done | rfl | (simp only [List.length_drop, List.length_take]; rfl)) ?_; (with_reducible refine (num_Civil.calls k a0 t208 t209 t210 t211 _ A2.out).mono ?_); rintro e w' ⟨rfl, ⟨nd, rfl⟩⟩; refine ⟨_, rfl, ?_⟩) | ((with_reducible refine gate_callee (f := 63) rfl ?_); refine goesL_ (some 19) rfl rfl Tryd.func63 (by kernel_rfl) rfl #[.int .i64 t208] rfl (by (try simp only [List.map_toArray, List.map_cons, List.map_nil]); first | done | rfl | (simp only [List.length_drop, List.length_take]; rfl)) ?_; (with_reducible refine (strconv_Itoa.calls t208 t212 _ A4.out (Gl.of HG.out (by repeat (first | exact HB.out | apply below_alloc | apply pw_below_drewN | apply below_drew1)))).mono ?_); rintro e w14 ⟨rfl, hb⟩; refine ⟨_, rfl, ?_⟩; have n0_ := Aside0.mk (below_step (by repeat (first | (with_reducible first | exact HB.out | apply below_alloc | apply pw_below_drewN | apply below_drew1) | exact HB.out)) hb); clear HB; have HB := n0_; clear n0_; (try clear hb); (try clear hb2); (try clear hk); (try clear hi)) | ((with_reducible refine gate_callee (f := 60) rfl ?_); refine goesL_ (some 20) rfl rfl Tryd.func60 (by kernel_rfl) rfl #[.string t212, .int .i64 4] rfl (by (try simp only [List.map_toArray, List.map_cons, List.map_nil]); first | done | rfl | (simp only [List.length_drop, List.length_take]; rfl)) ?_; (with_reducible refine (num_pad.calls t212 4 t213 _ A5.out).mono ?_); rintro e w15 ⟨rfl, hb⟩; refine ⟨_, rfl, ?_⟩; have n0_ := Aside0.mk (below_step (by repeat (first | (with_reducible first | exact HB.out | apply below_alloc | apply pw_below_drewN | apply below_drew1) | exact HB.out)) hb); clear HB; have HB := n0_; clear n0_; (try clear hb); (try clear hb2); (try clear hk); (try clear hi)) | ((with_reducible refine gate_callee (f := 63) rfl ?_); refine goesL_ (some 23) rfl rfl Tryd.func63 (by kernel_rfl) rfl #[.int .i64 t209] rfl (by (try simp only [List.map_toArray, List.map_cons, List.map_nil]); first | done | rfl | (simp only [List.length_drop, List.length_take]; rfl)) ?_; (with_reducible refine (strconv_Itoa.calls t209 t214 _ A7.out (Gl.of HG.out (by repeat (first | exact HB.out | apply below_alloc | apply pw_below_drewN | apply below_drew1)))).mono ?_); rintro e w16 ⟨rfl, hb⟩; refine ⟨_, rfl, ?_⟩; have n0_ := Aside0.mk (below_step (by repeat (first | (with_reducible first | exact HB.out | apply below_alloc | apply pw_below_drewN | apply below_drew1) | exact HB.out)) hb); clear HB; have HB := n0_; clear n0_; (try clear hb); (try clear hb2); (try clear hk); (try clear hi)) | ((with_reducible refine gate_callee (f := 60) rfl ?_); refine goesL_ (some 24) rfl rfl Tryd.func60 (by kernel_rfl) rfl #[.string t214, .int .i64 2] rfl (by (try simp only [List.map_toArray, List.map_cons, List.map_nil]); first | done | rfl | (simp only [List.length_drop, List.length_take]; rfl)) ?_; (with_reducible refine (num_pad.calls t214 2 t215 _ A8.out).mono ?_); rintro e w17 ⟨rfl, hb⟩; refine ⟨_, rfl, ?_⟩; have n0_ := Aside0.mk (below_step (by repeat (first | (with_reducible first | exact HB.out | apply below_alloc | apply pw_below_drewN | apply below_drew1) | exact HB.out)) hb); clear HB; have HB := n0_; clear n0_; (try clear hb); (try clear hb2); (try clear hk); (try clear hi)) | ((with_reducible refine gate_callee (f := 63) rfl ?_); refine goesL_ (some 28) rfl rfl Tryd.func63 (by kernel_rfl) rfl #[.int .i64 t210] rfl (by (try simp only [List.map_toArray, List.map_cons, List.map_nil]); first | done | rfl | (simp only [List.length_drop, List.length_take]; rfl)) ?_; (with_reducible refine (strconv_Itoa.calls t210 t216 _ A11.out (Gl.of HG.out (by repeat (first | exact HB.out | apply below_alloc | apply pw_below_drewN | apply below_drew1)))).mono ?_); rintro e w18 ⟨rfl, hb⟩; refine ⟨_, rfl, ?_⟩; have n0_ := Aside0.mk (below_step (by repeat (first | (with_reducible first | exact HB.out | apply below_alloc | apply pw_below_drewN | apply below_drew1) | exact HB.out)) hb); clear HB; have HB := n0_; clear n0_; (try clear hb); (try clear hb2); (try clear hk); (try clear hi)) | ((with_reducible refine gate_callee (f := 60) rfl ?_); refine goesL_ (some 29) rfl rfl Tryd.func60 (by kernel_rfl) rfl #[.string t216, .int .i64 2] rfl (by (try simp only [List.map_toArray, List.map_cons, List.map_nil]); first | done | rfl | (simp only [List.length_drop, List.length_take]; rfl)) ?_; (with_reducible refine (num_pad.calls t216 2 t217 _ A12.out).mono ?_); rintro e w19 ⟨rfl, hb⟩; refine ⟨_, rfl, ?_⟩; have n0_ := Aside0.mk (below_step (by repeat (first | (with_reducible first | exact HB.out | apply below_alloc | apply pw_below_drewN | apply below_drew1) | exact HB.out)) hb); clear HB; have HB := n0_; clear n0_; (try clear hb); (try clear hb2); (try clear hk); (try clear hi)))
            go_ret2
            exact ⟨by first | rfl | (simp [errW_none, errW_some] <;> rfl) | (simp [*, errW_none, errW_some] <;> rfl), by repeat (first | (with_reducible first | exact HB.out | apply below_alloc | apply pw_below_drewN | apply below_drew1) | exact HB.out)⟩
          · rw [if_neg c13] at H
            exact absurd H (by simp)
        · rw [if_neg c10] at H
          exact absurd H (by simp)
      · rw [if_neg c9] at H
        exact absurd H (by simp)
    · rw [if_neg c6] at H
      exact absurd H (by simp)
  · rw [if_neg c3] at H
    have c3b0 : (t211 == 0) = false := beq_eq_false_iff_ne.mpr c3
    have c3b1 : (t211 != 0) = true := bne_iff_ne.mpr c3
    simp only [Option.some.injEq, Prod.mk.injEq] at H
    obtain ⟨rfl, rfl⟩ := H
    go_enter Tryd.func28, Tryd.ntmps28
    go_wp2_with (first | ((with_reducible refine gate_callee (f := 24) rfl ?_); refine goesL_ (some 10) rfl rfl Tryd.func24 (by kernel_rfl) rfl #[.int .i64 a0] rfl (by (try simp only [List.map_toArray, List.map_cons, List.map_nil]); first | done | rfl | (simp only [List.length_drop, List.length_take]; rfl)) ?_; (with_reducible refine (num_Civil.calls k a0 t208 t209 t210 t211 _ A2.out).mono ?_); rintro e w' ⟨rfl, ⟨nd, rfl⟩⟩; refine ⟨_, rfl, ?_⟩))
    go_ret2
    exact ⟨by first | rfl | (simp [errW_none, errW_some] <;> rfl) | (simp [*, errW_none, errW_some] <;> rfl), by repeat (first | (with_reducible first | exact HB.out | apply below_alloc | apply pw_below_drewN | apply below_drew1) | exact HB.out)⟩

/-! ### colonnaderef01_FormatDay: function 29 -/
def colonnaderef01_FormatDay.f (k : Nat) (a0 : Int) : Option (ByteArray × Int) := (colonnaderef01_Civil.f k a0).bind fun bt218 => (if bt218.2.2.2 = 0 then ((colonnaderef01_plain.f k (IntKind.u64.wrap (bt218.1)) 4).bind fun t222 => (if t222.size + 1 ≤ 9223372036854775807 then ((colonnaderef01_plain.f k (IntKind.u64.wrap (bt218.2.1)) 2).bind fun t223 => (if (t222 ++ (⟨#[45]⟩ : ByteArray)).size + t223.size ≤ 9223372036854775807 then (if ((t222 ++ (⟨#[45]⟩ : ByteArray)) ++ t223).size + 1 ≤ 9223372036854775807 then ((colonnaderef01_plain.f k (IntKind.u64.wrap (bt218.2.2.1)) 2).bind fun t224 => (if (((t222 ++ (⟨#[45]⟩ : ByteArray)) ++ t223) ++ (⟨#[45]⟩ : ByteArray)).size + t224.size ≤ 9223372036854775807 then (some ((((t222 ++ (⟨#[45]⟩ : ByteArray)) ++ t223) ++ (⟨#[45]⟩ : ByteArray)) ++ t224, 0)) else (none))) else (none)) else (none))) else (none))) else (some ((⟨#[]⟩ : ByteArray), bt218.2.2.2)))
theorem colonnaderef01_FormatDay.mono : ∀ a0 k, LeO (colonnaderef01_FormatDay.f k a0) (colonnaderef01_FormatDay.f (k + 1) a0) := by
  intro a0 k
  unfold colonnaderef01_FormatDay.f
  repeat' first
      | (with_reducible exact colonnaderef01_Civil.mono _ _)
      | (with_reducible exact colonnaderef01_plain.mono _ _ _)
      | (with_reducible exact LeO.refl _)
      | (with_reducible exact LeO.none _)
      | (with_reducible refine LeO.ite ?_ ?_)
      | (with_reducible refine LeO.bind ?_ (fun _ => ?_))
      | exact colonnaderef01_Civil.mono _ _
      | exact colonnaderef01_plain.mono _ _ _
      | exact LeO.none _
      | refine LeO.ite ?_ ?_
      | refine LeO.bind ?_ (fun _ => ?_)
set_option maxHeartbeats 8000000 in
set_option maxRecDepth 100000 in
theorem colonnaderef01_FormatDay.calls (k : Nat) (a0 : Int) (r1 : ByteArray) (r2 : Int) (w : World) (h : colonnaderef01_FormatDay.f k a0 = some (r1, r2)) :
    Calls Tryd.prog 29 #[.int .i64 a0] w fun e w' => e = .returned (.tuple #[.string r1, .int .i64 r2]) ∧ Below w.heap.size w w' := by
  have HB := Aside0.mk (Below.refl w.heap.size w)
  have H : ((colonnaderef01_Civil.f k a0).bind fun bt218 => (if bt218.2.2.2 = 0 then ((colonnaderef01_plain.f k (IntKind.u64.wrap (bt218.1)) 4).bind fun t222 => (if t222.size + 1 ≤ 9223372036854775807 then ((colonnaderef01_plain.f k (IntKind.u64.wrap (bt218.2.1)) 2).bind fun t223 => (if (t222 ++ (⟨#[45]⟩ : ByteArray)).size + t223.size ≤ 9223372036854775807 then (if ((t222 ++ (⟨#[45]⟩ : ByteArray)) ++ t223).size + 1 ≤ 9223372036854775807 then ((colonnaderef01_plain.f k (IntKind.u64.wrap (bt218.2.2.1)) 2).bind fun t224 => (if (((t222 ++ (⟨#[45]⟩ : ByteArray)) ++ t223) ++ (⟨#[45]⟩ : ByteArray)).size + t224.size ≤ 9223372036854775807 then (some ((((t222 ++ (⟨#[45]⟩ : ByteArray)) ++ t223) ++ (⟨#[45]⟩ : ByteArray)) ++ t224, 0)) else (none))) else (none)) else (none))) else (none))) else (some ((⟨#[]⟩ : ByteArray), bt218.2.2.2)))) = some (r1, r2) := h
  clear h
  replace H := Option.bind_eq_some_iff.mp H
  obtain ⟨⟨t218, t219, t220, t221⟩, A20, H⟩ := H
  replace H : (if t221 = 0 then ((colonnaderef01_plain.f k (IntKind.u64.wrap (t218)) 4).bind fun t222 => (if t222.size + 1 ≤ 9223372036854775807 then ((colonnaderef01_plain.f k (IntKind.u64.wrap (t219)) 2).bind fun t223 => (if (t222 ++ (⟨#[45]⟩ : ByteArray)).size + t223.size ≤ 9223372036854775807 then (if ((t222 ++ (⟨#[45]⟩ : ByteArray)) ++ t223).size + 1 ≤ 9223372036854775807 then ((colonnaderef01_plain.f k (IntKind.u64.wrap (t220)) 2).bind fun t224 => (if (((t222 ++ (⟨#[45]⟩ : ByteArray)) ++ t223) ++ (⟨#[45]⟩ : ByteArray)).size + t224.size ≤ 9223372036854775807 then (some ((((t222 ++ (⟨#[45]⟩ : ByteArray)) ++ t223) ++ (⟨#[45]⟩ : ByteArray)) ++ t224, 0)) else (none))) else (none)) else (none))) else (none))) else (some ((⟨#[]⟩ : ByteArray), t221))) = some (r1, r2) := H
  have A2 := Aside0.mk A20
  clear A20
  by_cases c3 : t221 = 0
  · rw [if_pos c3] at H
    have c3b0 : (t221 == 0) = true := beq_iff_eq.mpr c3
    have c3b1 : (t221 != 0) = false := bne_eq_false_iff_eq.mpr c3
    clear c3
    replace H := Option.bind_eq_some_iff.mp H
    obtain ⟨t222, A40, H⟩ := H
    replace H : (if t222.size + 1 ≤ 9223372036854775807 then ((colonnaderef01_plain.f k (IntKind.u64.wrap (t219)) 2).bind fun t223 => (if (t222 ++ (⟨#[45]⟩ : ByteArray)).size + t223.size ≤ 9223372036854775807 then (if ((t222 ++ (⟨#[45]⟩ : ByteArray)) ++ t223).size + 1 ≤ 9223372036854775807 then ((colonnaderef01_plain.f k (IntKind.u64.wrap (t220)) 2).bind fun t224 => (if (((t222 ++ (⟨#[45]⟩ : ByteArray)) ++ t223) ++ (⟨#[45]⟩ : ByteArray)).size + t224.size ≤ 9223372036854775807 then (some ((((t222 ++ (⟨#[45]⟩ : ByteArray)) ++ t223) ++ (⟨#[45]⟩ : ByteArray)) ++ t224, 0)) else (none))) else (none)) else (none))) else (none)) = some (r1, r2) := H
    have A4 := Aside0.mk A40
    clear A40
    by_cases c5 : t222.size + 1 ≤ 9223372036854775807
    · rw [if_pos c5] at H
      have c5b0 := eq_true c5
      (try (have c5n := c5; simp [size_lit] at c5n))
      have c5b1 : decide (t222.size + 1 ≤ 9223372036854775807) = true := decide_eq_true c5
      try have c5b2 : (9223372036854775807 < t222.size + 1) = False := eq_false (Nat.not_lt.2 c5)
      replace H := Option.bind_eq_some_iff.mp H
      obtain ⟨t223, A60, H⟩ := H
      replace H : (if (t222 ++ (⟨#[45]⟩ : ByteArray)).size + t223.size ≤ 9223372036854775807 then (if ((t222 ++ (⟨#[45]⟩ : ByteArray)) ++ t223).size + 1 ≤ 9223372036854775807 then ((colonnaderef01_plain.f k (IntKind.u64.wrap (t220)) 2).bind fun t224 => (if (((t222 ++ (⟨#[45]⟩ : ByteArray)) ++ t223) ++ (⟨#[45]⟩ : ByteArray)).size + t224.size ≤ 9223372036854775807 then (some ((((t222 ++ (⟨#[45]⟩ : ByteArray)) ++ t223) ++ (⟨#[45]⟩ : ByteArray)) ++ t224, 0)) else (none))) else (none)) else (none)) = some (r1, r2) := H
      have A6 := Aside0.mk A60
      clear A60
      by_cases c7 : (t222 ++ (⟨#[45]⟩ : ByteArray)).size + t223.size ≤ 9223372036854775807
      · rw [if_pos c7] at H
        have c7b0 := eq_true c7
        (try (have c7n := c7; simp [size_lit] at c7n))
        have c7b1 : decide ((t222 ++ (⟨#[45]⟩ : ByteArray)).size + t223.size ≤ 9223372036854775807) = true := decide_eq_true c7
        try have c7b2 : (9223372036854775807 < (t222 ++ (⟨#[45]⟩ : ByteArray)).size + t223.size) = False := eq_false (Nat.not_lt.2 c7)
        by_cases c8 : ((t222 ++ (⟨#[45]⟩ : ByteArray)) ++ t223).size + 1 ≤ 9223372036854775807
        · rw [if_pos c8] at H
          have c8b0 := eq_true c8
          (try (have c8n := c8; simp [size_lit] at c8n))
          have c8b1 : decide (((t222 ++ (⟨#[45]⟩ : ByteArray)) ++ t223).size + 1 ≤ 9223372036854775807) = true := decide_eq_true c8
          try have c8b2 : (9223372036854775807 < ((t222 ++ (⟨#[45]⟩ : ByteArray)) ++ t223).size + 1) = False := eq_false (Nat.not_lt.2 c8)
          replace H := Option.bind_eq_some_iff.mp H
          obtain ⟨t224, A90, H⟩ := H
          replace H : (if (((t222 ++ (⟨#[45]⟩ : ByteArray)) ++ t223) ++ (⟨#[45]⟩ : ByteArray)).size + t224.size ≤ 9223372036854775807 then (some ((((t222 ++ (⟨#[45]⟩ : ByteArray)) ++ t223) ++ (⟨#[45]⟩ : ByteArray)) ++ t224, 0)) else (none)) = some (r1, r2) := H
          have A9 := Aside0.mk A90
          clear A90
          by_cases c10 : (((t222 ++ (⟨#[45]⟩ : ByteArray)) ++ t223) ++ (⟨#[45]⟩ : ByteArray)).size + t224.size ≤ 9223372036854775807
          · rw [if_pos c10] at H
            have c10b0 := eq_true c10
            (try (have c10n := c10; simp [size_lit] at c10n))
            have c10b1 : decide ((((t222 ++ (⟨#[45]⟩ : ByteArray)) ++ t223) ++ (⟨#[45]⟩ : ByteArray)).size + t224.size ≤ 9223372036854775807) = true := decide_eq_true c10
            try have c10b2 : (9223372036854775807 < (((t222 ++ (⟨#[45]⟩ : ByteArray)) ++ t223) ++ (⟨#[45]⟩ : ByteArray)).size + t224.size) = False := eq_false (Nat.not_lt.2 c10)
            simp only [Option.some.injEq, Prod.mk.injEq] at H
            obtain ⟨rfl, rfl⟩ := H
            go_enter Tryd.func29, Tryd.ntmps29
            go_wp2_with (first | ((with_reducible refine gate_callee (f := 25) rfl ?_); refine goesL_ (some 10) rfl rfl Tryd.func25 (by kernel_rfl) rfl #[.int .i64 a0] rfl (by (try simp only [List.map_toArray, List.map_cons, List.map_nil]); first | done | rfl | (simp only [List.length_drop, List.length_take]; rfl)) ?_; (with_reducible refine (colonnaderef01_Civil.calls k a0 t218 t219 t220 t221 _ A2.out).mono ?_); rintro e w' ⟨rfl, ⟨nd, rfl⟩⟩; refine ⟨_, rfl, ?_⟩) | ((with_reducible refine gate_callee (f := 61) rfl ?_); refine goesL_ (some 20) rfl rfl Tryd.func61 (by kernel_rfl) rfl #[.int .u64 (IntKind.u64.wrap (t218)), .int .i64 4] rfl (by (try simp only [List.map_toArray, List.map_cons, List.map_nil]); first | done | rfl | (simp only [List.length_drop, List.length_take]; rfl)) ?_; (with_reducible refine (colonnaderef01_plain.calls k (IntKind.u64.wrap (t218)) 4 t222 _ A4.out).mono ?_); rintro e w11 ⟨rfl, hb⟩; refine ⟨_, rfl, ?_⟩; have n0_ := Aside0.mk (below_step (by repeat (first | (with_reducible first | exact HB.out | apply below_alloc | apply pw_below_drewN | apply below_drew1) | exact HB.out)) hb); clear HB; have HB := n0_; clear n0_; (try clear hb); (try clear hb2); (try clear hk); (try clear hi)) | ((with_reducible refine gate_callee (f := 61) rfl ?_); refine goesL_ (some 24) rfl rfl Tryd.func61 (by kernel_rfl) rfl #[.int .u64 (IntKind.u64.wrap (t219)), .int .i64 2] rfl (by (try simp only [List.map_toArray, List.map_cons, List.map_nil]); first | done | rfl | (simp only [List.length_drop, List.length_take]; rfl)) ?_; (with_reducible refine (colonnaderef01_plain.calls k (IntKind.u64.wrap (t219)) 2 t223 _ A6.out).mono ?_); rintro e w12 ⟨rfl, hb⟩; refine ⟨_, rfl, ?_⟩; have n0_ := Aside0.mk (below_step (by repeat (first | (with_reducible first | exact HB.out | apply below_alloc | apply pw_below_drewN | apply below_drew1) | exact HB.out)) hb); clear HB; have HB := n0_; clear n0_; (try clear hb); (try clear hb2); (try clear hk); (try clear hi)) | ((with_reducible refine gate_callee (f := 61) rfl ?_); refine goesL_ (some 29) rfl rfl Tryd.func61 (by kernel_rfl) rfl #[.int .u64 (IntKind.u64.wrap (t220)), .int .i64 2] rfl (by (try simp only [List.map_toArray, List.map_cons, List.map_nil]); first | done | rfl | (simp only [List.length_drop, List.length_take]; rfl)) ?_; (with_reducible refine (colonnaderef01_plain.calls k (IntKind.u64.wrap (t220)) 2 t224 _ A9.out).mono ?_); rintro e w13 ⟨rfl, hb⟩; refine ⟨_, rfl, ?_⟩; have n0_ := Aside0.mk (below_step (by repeat (first | (with_reducible first | exact HB.out | apply below_alloc | apply pw_below_drewN | apply below_drew1) | exact HB.out)) hb); clear HB; have HB := n0_; clear n0_; (try clear hb); (try clear hb2); (try clear hk); (try clear hi)))
            go_ret2
            exact ⟨by first | rfl | (simp [errW_none, errW_some] <;> rfl) | (simp [*, errW_none, errW_some] <;> rfl), by repeat (first | (with_reducible first | exact HB.out | apply below_alloc | apply pw_below_drewN | apply below_drew1) | exact HB.out)⟩
          · rw [if_neg c10] at H
            exact absurd H (by simp)
        · rw [if_neg c8] at H
          exact absurd H (by simp)
      · rw [if_neg c7] at H
        exact absurd H (by simp)
    · rw [if_neg c5] at H
      exact absurd H (by simp)
  · rw [if_neg c3] at H
    have c3b0 : (t221 == 0) = false := beq_eq_false_iff_ne.mpr c3
    have c3b1 : (t221 != 0) = true := bne_iff_ne.mpr c3
    simp only [Option.some.injEq, Prod.mk.injEq] at H
    obtain ⟨rfl, rfl⟩ := H
    go_enter Tryd.func29, Tryd.ntmps29
    go_wp2_with (first | ((with_reducible refine gate_callee (f := 25) rfl ?_); refine goesL_ (some 10) rfl rfl Tryd.func25 (by kernel_rfl) rfl #[.int .i64 a0] rfl (by (try simp only [List.map_toArray, List.map_cons, List.map_nil]); first | done | rfl | (simp only [List.length_drop, List.length_take]; rfl)) ?_; (with_reducible refine (colonnaderef01_Civil.calls k a0 t218 t219 t220 t221 _ A2.out).mono ?_); rintro e w' ⟨rfl, ⟨nd, rfl⟩⟩; refine ⟨_, rfl, ?_⟩))
    go_ret2
    exact ⟨by first | rfl | (simp [errW_none, errW_some] <;> rfl) | (simp [*, errW_none, errW_some] <;> rfl), by repeat (first | (with_reducible first | exact HB.out | apply below_alloc | apply pw_below_drewN | apply below_drew1) | exact HB.out)⟩

/-! ### colonnaderef01_FormatInt: function 31 -/
def colonnaderef01_FormatInt.f (k : Nat) (a0 : Int) : Option (ByteArray) := if a0 < 0 then ((colonnaderef01_amount.f a0).bind fun t225 => ((colonnaderef01_plain.f k t225 1).bind fun t226 => (if 1 + t226.size ≤ 9223372036854775807 then (some ((⟨#[45]⟩ : ByteArray) ++ t226)) else (none)))) else ((colonnaderef01_amount.f a0).bind fun t227 => ((colonnaderef01_plain.f k t227 1).bind fun t228 => (some t228)))
theorem colonnaderef01_FormatInt.mono : ∀ a0 k, LeO (colonnaderef01_FormatInt.f k a0) (colonnaderef01_FormatInt.f (k + 1) a0) := by
  intro a0 k
  unfold colonnaderef01_FormatInt.f
  repeat' first
      | (with_reducible exact colonnaderef01_plain.mono _ _ _)
      | (with_reducible exact LeO.refl _)
      | (with_reducible exact LeO.none _)
      | (with_reducible refine LeO.ite ?_ ?_)
      | (with_reducible refine LeO.bind ?_ (fun _ => ?_))
      | exact colonnaderef01_plain.mono _ _ _
      | exact LeO.none _
      | refine LeO.ite ?_ ?_
      | refine LeO.bind ?_ (fun _ => ?_)
set_option maxHeartbeats 8000000 in
set_option maxRecDepth 100000 in
theorem colonnaderef01_FormatInt.calls (k : Nat) (a0 : Int) (r : ByteArray) (w : World) (h : colonnaderef01_FormatInt.f k a0 = some r) :
    Calls Tryd.prog 31 #[.int .i64 a0] w fun e w' => e = .returned (.string r) ∧ Below w.heap.size w w' := by
  have HB := Aside0.mk (Below.refl w.heap.size w)
  have H : (if a0 < 0 then ((colonnaderef01_amount.f a0).bind fun t225 => ((colonnaderef01_plain.f k t225 1).bind fun t226 => (if 1 + t226.size ≤ 9223372036854775807 then (some ((⟨#[45]⟩ : ByteArray) ++ t226)) else (none)))) else ((colonnaderef01_amount.f a0).bind fun t227 => ((colonnaderef01_plain.f k t227 1).bind fun t228 => (some t228)))) = some r := h
  clear h
  by_cases c2 : a0 < 0
  · rw [if_pos c2] at H
    have c2b0 : decide (a0 < 0) = true := decide_eq_true c2
    clear c2
    replace H := Option.bind_eq_some_iff.mp H
    obtain ⟨t225, A30, H⟩ := H
    replace H : ((colonnaderef01_plain.f k t225 1).bind fun t226 => (if 1 + t226.size ≤ 9223372036854775807 then (some ((⟨#[45]⟩ : ByteArray) ++ t226)) else (none))) = some r := H
    have A3 := Aside0.mk A30
    clear A30
    replace H := Option.bind_eq_some_iff.mp H
    obtain ⟨t226, A40, H⟩ := H
    replace H : (if 1 + t226.size ≤ 9223372036854775807 then (some ((⟨#[45]⟩ : ByteArray) ++ t226)) else (none)) = some r := H
    have A4 := Aside0.mk A40
    clear A40
    by_cases c5 : 1 + t226.size ≤ 9223372036854775807
    · rw [if_pos c5] at H
      have c5b0 := eq_true c5
      (try (have c5n := c5; simp [size_lit] at c5n))
      have c5b1 : decide (1 + t226.size ≤ 9223372036854775807) = true := decide_eq_true c5
      try have c5b2 : (9223372036854775807 < 1 + t226.size) = False := eq_false (Nat.not_lt.2 c5)
      obtain rfl := Option.some.inj H
      go_enter Tryd.func31, Tryd.ntmps31
      go_wp2_with (first | ((with_reducible refine gate_callee (f := 62) rfl ?_); refine goesL_ (some 6) rfl rfl Tryd.func62 (by kernel_rfl) rfl #[.int .i64 a0] rfl (by (try simp only [List.map_toArray, List.map_cons, List.map_nil]); first | done | rfl | (simp only [List.length_drop, List.length_take]; rfl)) ?_; (with_reducible refine (colonnaderef01_amount.calls a0 t225 _ A3.out).mono ?_); rintro e w' ⟨rfl, ⟨nd, rfl⟩⟩; refine ⟨_, rfl, ?_⟩) | ((with_reducible refine gate_callee (f := 61) rfl ?_); refine goesL_ (some 7) rfl rfl Tryd.func61 (by kernel_rfl) rfl #[.int .u64 t225, .int .i64 1] rfl (by (try simp only [List.map_toArray, List.map_cons, List.map_nil]); first | done | rfl | (simp only [List.length_drop, List.length_take]; rfl)) ?_; (with_reducible refine (colonnaderef01_plain.calls k t225 1 t226 _ A4.out).mono ?_); rintro e w6 ⟨rfl, hb⟩; refine ⟨_, rfl, ?_⟩; have n0_ := Aside0.mk (below_step (by repeat (first | (with_reducible first | exact HB.out | apply below_alloc | apply pw_below_drewN | apply below_drew1) | exact HB.out)) hb); clear HB; have HB := n0_; clear n0_; (try clear hb); (try clear hb2); (try clear hk); (try clear hi)))
      go_ret
      exact ⟨by first | rfl | (simp [errW_none, errW_some] <;> rfl) | (simp [*, errW_none, errW_some] <;> rfl), by repeat (first | (with_reducible first | exact HB.out | apply below_alloc | apply pw_below_drewN | apply below_drew1) | exact HB.out)⟩
    · rw [if_neg c5] at H
      exact absurd H (by simp)
  · rw [if_neg c2] at H
    have c2b0 : decide (a0 < 0) = false := decide_eq_false c2
    clear c2
    replace H := Option.bind_eq_some_iff.mp H
    obtain ⟨t227, A70, H⟩ := H
    replace H : ((colonnaderef01_plain.f k t227 1).bind fun t228 => (some t228)) = some r := H
    have A7 := Aside0.mk A70
    clear A70
    replace H := Option.bind_eq_some_iff.mp H
    obtain ⟨t228, A80, H⟩ := H
    replace H : (some t228) = some r := H
    have A8 := Aside0.mk A80
    clear A80
    obtain rfl := Option.some.inj H
    go_enter Tryd.func31, Tryd.ntmps31
    go_wp2_with (first | ((with_reducible refine gate_callee (f := 62) rfl ?_); refine goesL_ (some 10) rfl rfl Tryd.func62 (by kernel_rfl) rfl #[.int .i64 a0] rfl (by (try simp only [List.map_toArray, List.map_cons, List.map_nil]); first | done | rfl | (simp only [List.length_drop, List.length_take]; rfl)) ?_; (with_reducible refine (colonnaderef01_amount.calls a0 t227 _ A7.out).mono ?_); rintro e w' ⟨rfl, ⟨nd, rfl⟩⟩; refine ⟨_, rfl, ?_⟩) | ((with_reducible refine gate_callee (f := 61) rfl ?_); refine goesL_ (some 11) rfl rfl Tryd.func61 (by kernel_rfl) rfl #[.int .u64 t227, .int .i64 1] rfl (by (try simp only [List.map_toArray, List.map_cons, List.map_nil]); first | done | rfl | (simp only [List.length_drop, List.length_take]; rfl)) ?_; (with_reducible refine (colonnaderef01_plain.calls k t227 1 t228 _ A8.out).mono ?_); rintro e w9 ⟨rfl, hb⟩; refine ⟨_, rfl, ?_⟩; have n0_ := Aside0.mk (below_step (by repeat (first | (with_reducible first | exact HB.out | apply below_alloc | apply pw_below_drewN | apply below_drew1) | exact HB.out)) hb); clear HB; have HB := n0_; clear n0_; (try clear hb); (try clear hb2); (try clear hk); (try clear hi)))
    go_ret
    exact ⟨by first | rfl | (simp [errW_none, errW_some] <;> rfl) | (simp [*, errW_none, errW_some] <;> rfl), by repeat (first | (with_reducible first | exact HB.out | apply below_alloc | apply pw_below_drewN | apply below_drew1) | exact HB.out)⟩

end Go.Proofs.YtmjpdhledcfjaaaDoor.R
