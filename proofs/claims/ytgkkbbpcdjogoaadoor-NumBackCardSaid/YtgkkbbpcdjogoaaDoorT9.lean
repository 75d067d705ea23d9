/- PRINTED BY A PROGRAM OF THIS SESSION (px.py, over the kit's print): Lean functions with the answers of Go functions of the given program, and proofs that the Go code comes to these answers; each under the conditions that its theorem states. -/
import Derived.Test.YtgkkbbpcdjogoaaDoorT0
import Derived.Test.YtgkkbbpcdjogoaaDoorT1
import Derived.Test.YtgkkbbpcdjogoaaDoorT8
namespace Go.Proofs.YtgkkbbpcdjogoaaDoor.T
open Go.RowKit Go.Proofs.YtgkkbbpcdjogoaaDoorW.PrintWords Go.Proofs.YtgkkbbpcdjogoaaDoorW.PrintLast Go.Proofs.YtgkkbbpcdjogoaaDoorW.PrintMore
attribute [local go_sem] max2_int min2_int max_two min_two max_three min_three max_four min_four   -- for this text's walks alone
set_option linter.unusedVariables false
set_option linter.unusedSimpArgs false

/-! ### strconv_Itoa: function 23, by hand -/
def strconv_Itoa.f (a0 : Int) : Option (ByteArray) := if -9223372036854775808 ≤ a0 then (if a0 ≤ 9223372036854775807 then some ⟨(Lib.itoa a0).toArray⟩ else none) else none
set_option maxHeartbeats 8000000 in
set_option maxRecDepth 100000 in
theorem strconv_Itoa.calls (a0 : Int) (r : ByteArray) (w : World) (h : strconv_Itoa.f a0 = some r) (hG : Gl w) :
    Calls Tryd.prog 23 #[.int .i64 a0] w fun e w' => e = .returned (.string r) ∧ Below w.heap.size w w' := by
  unfold strconv_Itoa.f at h
  by_cases h1 : -9223372036854775808 ≤ a0
  · rw [if_pos h1] at h
    by_cases h2 : a0 ≤ 9223372036854775807
    · rw [if_pos h2] at h
      obtain rfl := Option.some.inj h
      refine (Tryd.strconv_Itoa a0 h1 h2 w hG.pow).mono ?_
      rintro e w' ⟨rfl, k, os, rfl⟩
      exact ⟨rfl, Lib.below_grow _ _ (Nat.le_refl _) _ _⟩
    · rw [if_neg h2] at h; exact absurd h (by simp)
  · rw [if_neg h1] at h; exact absurd h (by simp)


/-! ### num_FormatDay: function 10 -/
def num_FormatDay.f (k : Nat) (a0 : Int) : Option (ByteArray × Int) := (num_Civil.f k a0).bind fun bt122 => (if bt122.2.2.2 = 0 then ((strconv_Itoa.f bt122.1).bind fun t126 => ((num_pad.f t126 4).bind fun t127 => (if t127.size + 1 ≤ 9223372036854775807 then ((strconv_Itoa.f bt122.2.1).bind fun t128 => ((num_pad.f t128 2).bind fun t129 => (if (t127 ++ (⟨#[45]⟩ : ByteArray)).size + t129.size ≤ 9223372036854775807 then (if ((t127 ++ (⟨#[45]⟩ : ByteArray)) ++ t129).size + 1 ≤ 9223372036854775807 then ((strconv_Itoa.f bt122.2.2.1).bind fun t130 => ((num_pad.f t130 2).bind fun t131 => (if (((t127 ++ (⟨#[45]⟩ : ByteArray)) ++ t129) ++ (⟨#[45]⟩ : ByteArray)).size + t131.size ≤ 9223372036854775807 then (some ((((t127 ++ (⟨#[45]⟩ : ByteArray)) ++ t129) ++ (⟨#[45]⟩ : ByteArray)) ++ t131, 0)) else (none)))) else (none)) else (none)))) else (none)))) else (some ((⟨#[]⟩ : ByteArray), bt122.2.2.2)))
theorem num_FormatDay.mono : ∀ a0 k, LeO (num_FormatDay.f k a0) (num_FormatDay.f (k + 1) a0) := by
  intro a0 k
  unfold num_FormatDay.f
  repeat' first
      | (with_reducible exact num_Civil.mono _ _)
      | (with_reducible exact LeO.refl _)
      | (with_reducible exact LeO.none _)
      | (with_reducible refine LeO.ite ?_ ?_)
      | (with_reducible refine LeO.bind ?_ (fun _ => ?_))
      | exact num_Civil.mono _ _
      | exact LeO.none _
      | refine LeO.ite ?_ ?_
      | refine LeO.bind ?_ (fun _ => ?_)
set_option maxHeartbeats 8000000 in
set_option maxRecDepth 100000 in
theorem num_FormatDay.calls (k : Nat) (a0 : Int) (r1 : ByteArray) (r2 : Int) (w : World) (h : num_FormatDay.f k a0 = some (r1, r2)) (hG : Gl w) :
    Calls Tryd.prog 10 #[.int .i64 a0] w fun e w' => e = .returned (.tuple #[.string r1, .int .i64 r2]) ∧ Below w.heap.size w w' := by
  have HG := Aside0.mk hG
  clear hG
  have HB := Aside0.mk (Below.refl w.heap.size w)
  have H : ((num_Civil.f k a0).bind fun bt122 => (if bt122.2.2.2 = 0 then ((strconv_Itoa.f bt122.1).bind fun t126 => ((num_pad.f t126 4).bind fun t127 => (if t127.size + 1 ≤ 9223372036854775807 then ((strconv_Itoa.f bt122.2.1).bind fun t128 => ((num_pad.f t128 2).bind fun t129 => (if (t127 ++ (⟨#[45]⟩ : ByteArray)).size + t129.size ≤ 9223372036854775807 then (if ((t127 ++ (⟨#[45]⟩ : ByteArray)) ++ t129).size + 1 ≤ 9223372036854775807 then ((strconv_Itoa.f bt122.2.2.1).bind fun t130 => ((num_pad.f t130 2).bind fun t131 => (if (((t127 ++ (⟨#[45]⟩ : ByteArray)) ++ t129) ++ (⟨#[45]⟩ : ByteArray)).size + t131.size ≤ 9223372036854775807 then (some ((((t127 ++ (⟨#[45]⟩ : ByteArray)) ++ t129) ++ (⟨#[45]⟩ : ByteArray)) ++ t131, 0)) else (none)))) else (none)) else (none)))) else (none)))) else (some ((⟨#[]⟩ : ByteArray), bt122.2.2.2)))) = some (r1, r2) := h
  clear h
  replace H := Option.bind_eq_some_iff.mp H
  obtain ⟨⟨t122, t123, t124, t125⟩, A20, H⟩ := H
  replace H : (if t125 = 0 then ((strconv_Itoa.f t122).bind fun t126 => ((num_pad.f t126 4).bind fun t127 => (if t127.size + 1 ≤ 9223372036854775807 then ((strconv_Itoa.f t123).bind fun t128 => ((num_pad.f t128 2).bind fun t129 => (if (t127 ++ (⟨#[45]⟩ : ByteArray)).size + t129.size ≤ 9223372036854775807 then (if ((t127 ++ (⟨#[45]⟩ : ByteArray)) ++ t129).size + 1 ≤ 9223372036854775807 then ((strconv_Itoa.f t124).bind fun t130 => ((num_pad.f t130 2).bind fun t131 => (if (((t127 ++ (⟨#[45]⟩ : ByteArray)) ++ t129) ++ (⟨#[45]⟩ : ByteArray)).size + t131.size ≤ 9223372036854775807 then (some ((((t127 ++ (⟨#[45]⟩ : ByteArray)) ++ t129) ++ (⟨#[45]⟩ : ByteArray)) ++ t131, 0)) else (none)))) else (none)) else (none)))) else (none)))) else (some ((⟨#[]⟩ : ByteArray), t125))) = some (r1, r2) := H
  have A2 := Aside0.mk A20
  clear A20
  by_cases c3 : t125 = 0
  · rw [if_pos c3] at H
    have c3b0 : (t125 == 0) = true := beq_iff_eq.mpr c3
    have c3b1 : (t125 != 0) = false := bne_eq_false_iff_eq.mpr c3
    clear c3
    replace H := Option.bind_eq_some_iff.mp H
    obtain ⟨t126, A40, H⟩ := H
    replace H : ((num_pad.f t126 4).bind fun t127 => (if t127.size + 1 ≤ 9223372036854775807 then ((strconv_Itoa.f t123).bind fun t128 => ((num_pad.f t128 2).bind fun t129 => (if (t127 ++ (⟨#[45]⟩ : ByteArray)).size + t129.size ≤ 9223372036854775807 then (if ((t127 ++ (⟨#[45]⟩ : ByteArray)) ++ t129).size + 1 ≤ 9223372036854775807 then ((strconv_Itoa.f t124).bind fun t130 => ((num_pad.f t130 2).bind fun t131 => (if (((t127 ++ (⟨#[45]⟩ : ByteArray)) ++ t129) ++ (⟨#[45]⟩ : ByteArray)).size + t131.size ≤ 9223372036854775807 then (some ((((t127 ++ (⟨#[45]⟩ : ByteArray)) ++ t129) ++ (⟨#[45]⟩ : ByteArray)) ++ t131, 0)) else (none)))) else (none)) else (none)))) else (none))) = some (r1, r2) := H
    have A4 := Aside0.mk A40
    clear A40
    replace H := Option.bind_eq_some_iff.mp H
    obtain ⟨t127, A50, H⟩ := H
    replace H : (if t127.size + 1 ≤ 9223372036854775807 then ((strconv_Itoa.f t123).bind fun t128 => ((num_pad.f t128 2).bind fun t129 => (if (t127 ++ (⟨#[45]⟩ : ByteArray)).size + t129.size ≤ 9223372036854775807 then (if ((t127 ++ (⟨#[45]⟩ : ByteArray)) ++ t129).size + 1 ≤ 9223372036854775807 then ((strconv_Itoa.f t124).bind fun t130 => ((num_pad.f t130 2).bind fun t131 => (if (((t127 ++ (⟨#[45]⟩ : ByteArray)) ++ t129) ++ (⟨#[45]⟩ : ByteArray)).size + t131.size ≤ 9223372036854775807 then (some ((((t127 ++ (⟨#[45]⟩ : ByteArray)) ++ t129) ++ (⟨#[45]⟩ : ByteArray)) ++ t131, 0)) else (none)))) else (none)) else (none)))) else (none)) = some (r1, r2) := H
    have A5 := Aside0.mk A50
    clear A50
    by_cases c6 : t127.size + 1 ≤ 9223372036854775807
    · rw [if_pos c6] at H
      have c6b0 := eq_true c6
      (try (have c6n := c6; simp [size_lit] at c6n))
      (try (have c6m := eq_false (Nat.not_lt.2 c6); simp only [ByteArray.size_append, size_lit, List.length_cons, List.length_nil, Nat.reduceAdd, Nat.zero_add] at c6m))
      have c6b1 : decide (t127.size + 1 ≤ 9223372036854775807) = true := decide_eq_true c6
      try have c6b2 : (9223372036854775807 < t127.size + 1) = False := eq_false (Nat.not_lt.2 c6)
      replace H := Option.bind_eq_some_iff.mp H
      obtain ⟨t128, A70, H⟩ := H
      replace H : ((num_pad.f t128 2).bind fun t129 => (if (t127 ++ (⟨#[45]⟩ : ByteArray)).size + t129.size ≤ 9223372036854775807 then (if ((t127 ++ (⟨#[45]⟩ : ByteArray)) ++ t129).size + 1 ≤ 9223372036854775807 then ((strconv_Itoa.f t124).bind fun t130 => ((num_pad.f t130 2).bind fun t131 => (if (((t127 ++ (⟨#[45]⟩ : ByteArray)) ++ t129) ++ (⟨#[45]⟩ : ByteArray)).size + t131.size ≤ 9223372036854775807 then (some ((((t127 ++ (⟨#[45]⟩ : ByteArray)) ++ t129) ++ (⟨#[45]⟩ : ByteArray)) ++ t131, 0)) else (none)))) else (none)) else (none))) = some (r1, r2) := H
      have A7 := Aside0.mk A70
      clear A70
      replace H := Option.bind_eq_some_iff.mp H
      obtain ⟨t129, A80, H⟩ := H
      replace H : (if (t127 ++ (⟨#[45]⟩ : ByteArray)).size + t129.size ≤ 9223372036854775807 then (if ((t127 ++ (⟨#[45]⟩ : ByteArray)) ++ t129).size + 1 ≤ 9223372036854775807 then ((strconv_Itoa.f t124).bind fun t130 => ((num_pad.f t130 2).bind fun t131 => (if (((t127 ++ (⟨#[45]⟩ : ByteArray)) ++ t129) ++ (⟨#[45]⟩ : ByteArray)).size + t131.size ≤ 9223372036854775807 then (some ((((t127 ++ (⟨#[45]⟩ : ByteArray)) ++ t129) ++ (⟨#[45]⟩ : ByteArray)) ++ t131, 0)) else (none)))) else (none)) else (none)) = some (r1, r2) := H
      have A8 := Aside0.mk A80
      clear A80
      by_cases c9 : (t127 ++ (⟨#[45]⟩ : ByteArray)).size + t129.size ≤ 9223372036854775807
      · rw [if_pos c9] at H
        have c9b0 := eq_true c9
        (try (have c9n := c9; simp [size_lit] at c9n))
        (try (have c9m := eq_false (Nat.not_lt.2 c9); simp only [ByteArray.size_append, size_lit, List.length_cons, List.length_nil, Nat.reduceAdd, Nat.zero_add] at c9m))
        have c9b1 : decide ((t127 ++ (⟨#[45]⟩ : ByteArray)).size + t129.size ≤ 9223372036854775807) = true := decide_eq_true c9
        try have c9b2 : (9223372036854775807 < (t127 ++ (⟨#[45]⟩ : ByteArray)).size + t129.size) = False := eq_false (Nat.not_lt.2 c9)
        by_cases c10 : ((t127 ++ (⟨#[45]⟩ : ByteArray)) ++ t129).size + 1 ≤ 9223372036854775807
        · rw [if_pos c10] at H
          have c10b0 := eq_true c10
          (try (have c10n := c10; simp [size_lit] at c10n))
          (try (have c10m := eq_false (Nat.not_lt.2 c10); simp only [ByteArray.size_append, size_lit, List.length_cons, List.length_nil, Nat.reduceAdd, Nat.zero_add] at c10m))
          have c10b1 : decide (((t127 ++ (⟨#[45]⟩ : ByteArray)) ++ t129).size + 1 ≤ 9223372036854775807) = true := decide_eq_true c10
          try have c10b2 : (9223372036854775807 < ((t127 ++ (⟨#[45]⟩ : ByteArray)) ++ t129).size + 1) = False := eq_false (Nat.not_lt.2 c10)
          replace H := Option.bind_eq_some_iff.mp H
          obtain ⟨t130, A110, H⟩ := H
          replace H : ((num_pad.f t130 2).bind fun t131 => (if (((t127 ++ (⟨#[45]⟩ : ByteArray)) ++ t129) ++ (⟨#[45]⟩ : ByteArray)).size + t131.size ≤ 9223372036854775807 then (some ((((t127 ++ (⟨#[45]⟩ : ByteArray)) ++ t129) ++ (⟨#[45]⟩ : ByteArray)) ++ t131, 0)) else (none))) = some (r1, r2) := H
          have A11 := Aside0.mk A110
          clear A110
          replace H := Option.bind_eq_some_iff.mp H
          obtain ⟨t131, A120, H⟩ := H
          replace H : (if (((t127 ++ (⟨#[45]⟩ : ByteArray)) ++ t129) ++ (⟨#[45]⟩ : ByteArray)).size + t131.size ≤ 9223372036854775807 then (some ((((t127 ++ (⟨#[45]⟩ : ByteArray)) ++ t129) ++ (⟨#[45]⟩ : ByteArray)) ++ t131, 0)) else (none)) = some (r1, r2) := H
          have A12 := Aside0.mk A120
          clear A120
          by_cases c13 : (((t127 ++ (⟨#[45]⟩ : ByteArray)) ++ t129) ++ (⟨#[45]⟩ : ByteArray)).size + t131.size ≤ 9223372036854775807
          · rw [if_pos c13] at H
            have c13b0 := eq_true c13
            (try (have c13n := c13; simp [size_lit] at c13n))
            (try (have c13m := eq_false (Nat.not_lt.2 c13); simp only [ByteArray.size_append, size_lit, List.length_cons, List.length_nil, Nat.reduceAdd, Nat.zero_add] at c13m))
            have c13b1 : decide ((((t127 ++ (⟨#[45]⟩ : ByteArray)) ++ t129) ++ (⟨#[45]⟩ : ByteArray)).size + t131.size ≤ 9223372036854775807) = true := decide_eq_true c13
            try have c13b2 : (9223372036854775807 < (((t127 ++ (⟨#[45]⟩ : ByteArray)) ++ t129) ++ (⟨#[45]⟩ : ByteArray)).size + t131.size) = False := eq_false (Nat.not_lt.2 c13)
            simp only [Option.some.injEq, Prod.mk.injEq] at H
            obtain ⟨rfl, rfl⟩ := H
            go_enter Tryd.func10, Tryd.ntmps10
            go_wp2_with (first | ((with_reducible refine gate_callee (f := 22) rfl ?_); refine goesL_ (some 10) rfl rfl Tryd.func22 (by kernel_rfl) rfl #[.int .i64 a0] rfl (by (try simp only [List.map_toArray, List.map_cons, List.map_nil]); first | done | rfl | (simp only [List.length_drop, List.length_take]; rfl)) ?_; (with_reducible refine (num_Civil.calls k a0 t122 t123 t124 t125 _ A2.out).mono ?_); rintro e w' ⟨rfl, ⟨nd, rfl⟩⟩; refine ⟨_, rfl, ?_⟩) | ((with_reducible refine gate_callee (f := 23) rfl ?_); refine goesL_ (some 19) rfl rfl Tryd.func23 (by kernel_rfl) rfl #[.int .i64 t122] rfl (by (try simp only [List.map_toArray, List.map_cons, List.map_nil]); first | done | rfl | (simp only [List.length_drop, List.length_take]; rfl)) ?_; (with_reducible refine (strconv_Itoa.calls t122 t126 _ A4.out (Gl.of HG.out (by repeat (first | exact HB.out | apply below_alloc | apply pw_below_drewN | apply below_drew1)))).mono ?_); rintro e w14 ⟨rfl, hb⟩; refine ⟨_, rfl, ?_⟩; have n0_ := Aside0.mk (below_step (by repeat (first | (with_reducible first | exact HB.out | apply below_alloc | apply pw_below_drewN | apply below_drew1) | exact HB.out)) hb); clear HB; have HB := n0_; clear n0_; (try clear hb); (try clear hb2); (try clear hk); (try clear hi)) | ((with_reducible refine gate_callee (f := 20) rfl ?_); refine goesL_ (some 20) rfl rfl Tryd.func20 (by kernel_rfl) rfl #[.string t126, .int .i64 4] rfl (by (try simp only [List.map_toArray, List.map_cons, List.map_nil]); first | done | rfl | (simp only [List.length_drop, List.length_take]; rfl)) ?_; (with_reducible refine (num_pad.calls t126 4 t127 _ A5.out).mono ?_); rintro e w15 ⟨rfl, hb⟩; refine ⟨_, rfl, ?_⟩; have n0_ := Aside0.mk (below_step (by repeat (first | (with_reducible first | exact HB.out | apply below_alloc | apply pw_below_drewN | apply below_drew1) | exact HB.out)) hb); clear HB; have HB := n0_; clear n0_; (try clear hb); (try clear hb2); (try clear hk); (try clear hi)) | ((with_reducible refine gate_callee (f := 23) rfl ?_); refine goesL_ (some 23) rfl rfl Tryd.func23 (by kernel_rfl) rfl #[.int .i64 t123] rfl (by (try simp only [List.map_toArray, List.map_cons, List.map_nil]); first | done | rfl | (simp only [List.length_drop, List.length_take]; rfl)) ?_; (with_reducible refine (strconv_Itoa.calls t123 t128 _ A7.out (Gl.of HG.out (by repeat (first | exact HB.out | apply below_alloc | apply pw_below_drewN | apply below_drew1)))).mono ?_); rintro e w16 ⟨rfl, hb⟩; refine ⟨_, rfl, ?_⟩; have n0_ := Aside0.mk (below_step (by repeat (first | (with_reducible first | exact HB.out | apply below_alloc | apply pw_below_drewN | apply below_drew1) | exact HB.out)) hb); clear HB; have HB := n0_; clear n0_; (try clear hb); (try clear hb2); (try clear hk); (try clear hi)) | ((with_reducible refine gate_callee (f := 20) rfl ?_); refine goesL_ (some 24) rfl rfl Tryd.func20 (by kernel_rfl) rfl #[.string t128, .int .i64 2] rfl (by (try simp only [List.map_toArray, List.map_cons, List.map_nil]); first | done | rfl | (simp only [List.length_drop, List.length_take]; rfl)) ?_; (with_reducible refine (num_pad.calls t128 2 t129 _ A8.out).mono ?_); rintro e w17 ⟨rfl, hb⟩; refine ⟨_, rfl, ?_⟩; have n0_ := Aside0.mk (below_step (by repeat (first | (with_reducible first | exact HB.out | apply below_alloc | apply pw_below_drewN | apply below_drew1) | exact HB.out)) hb); clear HB; have HB := n0_; clear n0_; (try clear hb); (try clear hb2); (try clear hk); (try clear hi)) | ((with_reducible refine gate_callee (f := 23) rfl ?_); refine goesL_ (some 28) rfl rfl Tryd.func23 (by kernel_rfl) rfl #[.int .i64 t124] rfl (by (try simp only [List.map_toArray, List.map_cons, List.map_nil]); first | done | rfl | (simp only [List.length_drop, List.length_take]; rfl)) ?_; (with_reducible refine (strconv_Itoa.calls t124 t130 _ A11.out (Gl.of HG.out (by repeat (first | exact HB.out | apply below_alloc | apply pw_below_drewN | apply below_drew1)))).mono ?_); rintro e w18 ⟨rfl, hb⟩; refine ⟨_, rfl, ?_⟩; have n0_ := Aside0.mk (below_step (by repeat (first | (with_reducible first | exact HB.out | apply below_alloc | apply pw_below_drewN | apply below_drew1) | exact HB.out)) hb); clear HB; have HB := n0_; clear n0_; (try clear hb); (try clear hb2); (try clear hk); (try clear hi)) | ((with_reducible refine gate_callee (f := 20) rfl ?_); refine goesL_ (some 29) rfl rfl Tryd.func20 (by kernel_rfl) rfl #[.string t130, .int .i64 2] rfl (by (try simp only [List.map_toArray, List.map_cons, List.map_nil]); first | done | rfl | (simp only [List.length_drop, List.length_take]; rfl)) ?_; (with_reducible refine (num_pad.calls t130 2 t131 _ A12.out).mono ?_); rintro e w19 ⟨rfl, hb⟩; refine ⟨_, rfl, ?_⟩; have n0_ := Aside0.mk (below_step (by repeat (first | (with_reducible first | exact HB.out | apply below_alloc | apply pw_below_drewN | apply below_drew1) | exact HB.out)) hb); clear HB; have HB := n0_; clear n0_; (try clear hb); (try clear hb2); (try clear hk); (try clear hi)))
            go_ret2
            exact ⟨by first | rfl | (simp [errW_none, errW_some] <;> rfl) | (simp [*, errW_none, errW_some] <;> rfl), by repeat (first | (with_reducible first | exact HB.out | apply below_alloc | apply pw_below_drewN | apply below_drew1) | exact HB.out)⟩
          · rw [if_neg c13] at H
            exact absurd H (by simp)
        · rw [if_neg c10] at H
          exact absurd H (by simp)
      · rw [if_neg c9] at H
        exact absurd H (by simp)
    · rw [if_neg c6] at H
      exact absurd H (by simp)
  · rw [if_neg c3] at H
    have c3b0 : (t125 == 0) = false := beq_eq_false_iff_ne.mpr c3
    have c3b1 : (t125 != 0) = true := bne_iff_ne.mpr c3
    simp only [Option.some.injEq, Prod.mk.injEq] at H
    obtain ⟨rfl, rfl⟩ := H
    go_enter Tryd.func10, Tryd.ntmps10
    go_wp2_with (first | ((with_reducible refine gate_callee (f := 22) rfl ?_); refine goesL_ (some 10) rfl rfl Tryd.func22 (by kernel_rfl) rfl #[.int .i64 a0] rfl (by (try simp only [List.map_toArray, List.map_cons, List.map_nil]); first | done | rfl | (simp only [List.length_drop, List.length_take]; rfl)) ?_; (with_reducible refine (num_Civil.calls k a0 t122 t123 t124 t125 _ A2.out).mono ?_); rintro e w' ⟨rfl, ⟨nd, rfl⟩⟩; refine ⟨_, rfl, ?_⟩))
    go_ret2
    exact ⟨by first | rfl | (simp [errW_none, errW_some] <;> rfl) | (simp [*, errW_none, errW_some] <;> rfl), by repeat (first | (with_reducible first | exact HB.out | apply below_alloc | apply pw_below_drewN | apply below_drew1) | exact HB.out)⟩

end Go.Proofs.YtgkkbbpcdjogoaaDoor.T
