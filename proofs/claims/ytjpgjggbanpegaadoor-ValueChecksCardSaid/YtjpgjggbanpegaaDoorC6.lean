/- PRINTED BY A PROGRAM OF THIS SESSION (px.py, over the kit's print): Lean functions with the answers of Go functions of the given program, and proofs that the Go code comes to these answers; each under the conditions that its theorem states. -/
import Derived.Test.YtjpgjggbanpegaaDoorC0
import Derived.Test.YtjpgjggbanpegaaDoorC3
import Derived.Test.YtjpgjggbanpegaaDoorC5
namespace Go.Proofs.YtjpgjggbanpegaaDoor.C
open Go.RowKit Go.Proofs.YtjpgjggbanpegaaDoorW.PrintWords Go.Proofs.YtjpgjggbanpegaaDoorW.PrintLast Go.Proofs.YtjpgjggbanpegaaDoorW.PrintMore
attribute [local go_sem] max2_int min2_int max_two min_two max_three min_three max_four min_four   -- for this text's walks alone
set_option linter.unusedVariables false
set_option linter.unusedSimpArgs false

/-! ### stringslite_CutPrefix: function 82 -/
def stringslite_CutPrefix.f (a0 : ByteArray) (a1 : ByteArray) : Option (ByteArray × Bool) := (stringslite_HasPrefix.f a0 a1).bind fun t136 => (if t136 = true then (if 0 ≤ (a1.size : Int) then (if (a1.size : Int) ≤ (a0.size : Int) then (some (a0.extract ((a1.size : Int) : Int).toNat a0.size, true)) else (none)) else (none)) else (some (a0, false)))
set_option maxHeartbeats 8000000 in
set_option maxRecDepth 100000 in
theorem stringslite_CutPrefix.calls (a0 : ByteArray) (a1 : ByteArray) (r1 : ByteArray) (r2 : Bool) (w : World) (h : stringslite_CutPrefix.f a0 a1 = some (r1, r2)) :
    Calls Tryd.prog 82 #[.string a0, .string a1] w fun e w' => e = .returned (.tuple #[.string r1, .bool r2]) ∧ Drawn0 w w' := by
  have H : ((stringslite_HasPrefix.f a0 a1).bind fun t136 => (if t136 = true then (if 0 ≤ (a1.size : Int) then (if (a1.size : Int) ≤ (a0.size : Int) then (some (a0.extract ((a1.size : Int) : Int).toNat a0.size, true)) else (none)) else (none)) else (some (a0, false)))) = some (r1, r2) := h
  clear h
  replace H := Option.bind_eq_some_iff.mp H
  obtain ⟨t136, A30, H⟩ := H
  replace H : (if t136 = true then (if 0 ≤ (a1.size : Int) then (if (a1.size : Int) ≤ (a0.size : Int) then (some (a0.extract ((a1.size : Int) : Int).toNat a0.size, true)) else (none)) else (none)) else (some (a0, false))) = some (r1, r2) := H
  have A3 := Aside0.mk A30
  clear A30
  by_cases c4 : t136 = true
  · subst c4
    have H1 : (if 0 ≤ (a1.size : Int) then (if (a1.size : Int) ≤ (a0.size : Int) then (some (a0.extract ((a1.size : Int) : Int).toNat a0.size, true)) else (none)) else (none)) = some (r1, r2) := by rw [if_pos rfl] at H; exact H
    clear H
    have H := H1
    clear H1
    by_cases c5 : 0 ≤ (a1.size : Int)
    · rw [if_pos c5] at H
      have c5b0 := eq_true c5
      (try (have c5n := c5; simp [size_lit] at c5n))
      have c5b1 : decide (0 ≤ (a1.size : Int)) = true := decide_eq_true c5
      clear c5
      by_cases c6 : (a1.size : Int) ≤ (a0.size : Int)
      · rw [if_pos c6] at H
        have c6b0 := eq_true c6
        (try (have c6n := c6; simp [size_lit] at c6n))
        have c6b1 : decide ((a1.size : Int) ≤ (a0.size : Int)) = true := decide_eq_true c6
        clear c6
        simp only [Option.some.injEq, Prod.mk.injEq] at H
        obtain ⟨rfl, rfl⟩ := H
        go_enter Tryd.func82, Tryd.ntmps82
        go_wp2_with (first | ((with_reducible refine gate_callee (f := 99) rfl ?_); refine goesL_ (some 8) rfl rfl Tryd.func99 (by kernel_rfl) rfl #[.string a0, .string a1] rfl (by (try simp only [List.map_toArray, List.map_cons, List.map_nil]); first | done | rfl | (simp only [List.length_drop, List.length_take]; rfl)) ?_; (with_reducible refine (stringslite_HasPrefix.calls a0 a1 true _ A3.out).mono ?_); rintro e w' ⟨rfl, ⟨nd, rfl⟩⟩; refine ⟨_, rfl, ?_⟩))
        go_ret2
        exact ⟨by first | rfl | (simp; done) | (simp [*]; done), by repeat (first | exact Drawn0.refl _ | apply Drawn0.step)⟩
      · rw [if_neg c6] at H
        exact absurd H (by simp)
    · rw [if_neg c5] at H
      exact absurd H (by simp)
  · replace c4 := Bool.eq_false_iff.mpr c4
    subst c4
    have H1 : (some (a0, false)) = some (r1, r2) := by rw [if_neg (show ¬ (false = true) by decide)] at H; exact H
    clear H
    have H := H1
    clear H1
    simp only [Option.some.injEq, Prod.mk.injEq] at H
    obtain ⟨rfl, rfl⟩ := H
    go_enter Tryd.func82, Tryd.ntmps82
    go_wp2_with (first | ((with_reducible refine gate_callee (f := 99) rfl ?_); refine goesL_ (some 8) rfl rfl Tryd.func99 (by kernel_rfl) rfl #[.string a0, .string a1] rfl (by (try simp only [List.map_toArray, List.map_cons, List.map_nil]); first | done | rfl | (simp only [List.length_drop, List.length_take]; rfl)) ?_; (with_reducible refine (stringslite_HasPrefix.calls a0 a1 false _ A3.out).mono ?_); rintro e w' ⟨rfl, ⟨nd, rfl⟩⟩; refine ⟨_, rfl, ?_⟩))
    go_ret2
    exact ⟨by first | rfl | (simp; done) | (simp [*]; done), by repeat (first | exact Drawn0.refl _ | apply Drawn0.step)⟩

/-! ### strings_CutPrefix: function 67 -/
def strings_CutPrefix.f (a0 : ByteArray) (a1 : ByteArray) : Option (ByteArray × Bool) := (stringslite_CutPrefix.f a0 a1).bind fun bt137 => (some (bt137.1, bt137.2))
set_option maxHeartbeats 8000000 in
set_option maxRecDepth 100000 in
theorem strings_CutPrefix.calls (a0 : ByteArray) (a1 : ByteArray) (r1 : ByteArray) (r2 : Bool) (w : World) (h : strings_CutPrefix.f a0 a1 = some (r1, r2)) :
    Calls Tryd.prog 67 #[.string a0, .string a1] w fun e w' => e = .returned (.tuple #[.string r1, .bool r2]) ∧ Drawn0 w w' := by
  have H : ((stringslite_CutPrefix.f a0 a1).bind fun bt137 => (some (bt137.1, bt137.2))) = some (r1, r2) := h
  clear h
  replace H := Option.bind_eq_some_iff.mp H
  obtain ⟨⟨t137, t138⟩, A30, H⟩ := H
  replace H : (some (t137, t138)) = some (r1, r2) := H
  have A3 := Aside0.mk A30
  clear A30
  simp only [Option.some.injEq, Prod.mk.injEq] at H
  obtain ⟨rfl, rfl⟩ := H
  go_enter Tryd.func67, Tryd.ntmps67
  go_wp2_with (first | ((with_reducible refine gate_callee (f := 82) rfl ?_); refine goesL_ (some 8) rfl rfl Tryd.func82 (by kernel_rfl) rfl #[.string a0, .string a1] rfl (by (try simp only [List.map_toArray, List.map_cons, List.map_nil]); first | done | rfl | (simp only [List.length_drop, List.length_take]; rfl)) ?_; (with_reducible refine (stringslite_CutPrefix.calls a0 a1 t137 t138 _ A3.out).mono ?_); rintro e w' ⟨rfl, ⟨nd, rfl⟩⟩; refine ⟨_, rfl, ?_⟩))
  go_ret2
  exact ⟨by first | rfl | (simp; done) | (simp [*]; done), by repeat (first | exact Drawn0.refl _ | apply Drawn0.step)⟩

/-! ### strings_Repeat: function 83, by hand -/
def strings_Repeat.f (a0 : ByteArray) (a1 : Int) : Option (ByteArray) := if 0 ≤ a1 then (if a1 ≤ 9223372036854775807 ∧ a0.size * a1.toNat ≤ 140737488355328 then some ⟨(Lib.repeatL a0.data.toList a1.toNat).toArray⟩ else none) else none
theorem strings_Repeat.calls (a0 : ByteArray) (a1 : Int) (r : ByteArray) (w : World) (h : strings_Repeat.f a0 a1 = some r) :
    Calls Tryd.prog 83 #[.string a0, .int .i64 a1] w fun e w' => e = .returned (.string r) ∧ Below w.heap.size w w' := by
  unfold strings_Repeat.f at h
  by_cases h1 : 0 ≤ a1
  · rw [if_pos h1] at h
    by_cases h2 : a1 ≤ 9223372036854775807 ∧ a0.size * a1.toNat ≤ 140737488355328
    · rw [if_pos h2] at h
      obtain rfl := Option.some.inj h
      obtain ⟨n, rfl⟩ := Int.eq_ofNat_of_zero_le h1
      exact Tryd.strings_Repeat a0 n w (by have := h2.1; omega) h2.2
    · rw [if_neg h2] at h; exact absurd h (by simp)
  · rw [if_neg h1] at h; exact absurd h (by simp)


/-! ### num_pad: function 68 -/
def num_pad.f (a0 : ByteArray) (a1 : Int) : Option (ByteArray) := (strings_Repeat.f (⟨#[48]⟩ : ByteArray) (mx 0 (wrap64 (a1 - (a0.size : Int))))).bind fun t139 => (if t139.size + a0.size ≤ 9223372036854775807 then (some (t139 ++ a0)) else (none))
set_option maxHeartbeats 8000000 in
set_option maxRecDepth 100000 in
theorem num_pad.calls (a0 : ByteArray) (a1 : Int) (r : ByteArray) (w : World) (h : num_pad.f a0 a1 = some r) :
    Calls Tryd.prog 68 #[.string a0, .int .i64 a1] w fun e w' => e = .returned (.string r) ∧ Below w.heap.size w w' := by
  have HB := Aside0.mk (Below.refl w.heap.size w)
  have H : ((strings_Repeat.f (⟨#[48]⟩ : ByteArray) (mx 0 (wrap64 (a1 - (a0.size : Int))))).bind fun t139 => (if t139.size + a0.size ≤ 9223372036854775807 then (some (t139 ++ a0)) else (none))) = some r := h
  clear h
  obtain ⟨ji3, hji3⟩ : ∃ j_ : Int, (mx 0 (wrap64 (a1 - (a0.size : Int)))) = j_ := ⟨_, rfl⟩
  replace H : ((strings_Repeat.f (⟨#[48]⟩ : ByteArray) (ji3)).bind fun t139 => (if t139.size + a0.size ≤ 9223372036854775807 then (some (t139 ++ a0)) else (none))) = some r := by first | (rw [hji3] at H; exact H) | (simp only [hji3] at H ⊢; exact H)
  (try (have hji3l : 0 ≤ ji3 := by (rw [← hji3]; unfold mx; (repeat' split) <;> omega)))
  (try (have hji3m : 0 ≤ ji3 := by omega))
  have hji3_ : (if 0 < (wrap64 (a1 - (a0.size : Int))) then (wrap64 (a1 - (a0.size : Int))) else 0) = ji3 := hji3
  replace H := Option.bind_eq_some_iff.mp H
  obtain ⟨t139, A40, H⟩ := H
  replace H : (if t139.size + a0.size ≤ 9223372036854775807 then (some (t139 ++ a0)) else (none)) = some r := H
  have A4 := Aside0.mk A40
  clear A40
  by_cases c5 : t139.size + a0.size ≤ 9223372036854775807
  · rw [if_pos c5] at H
    have c5b0 := eq_true c5
    (try (have c5n := c5; simp [size_lit] at c5n))
    have c5b1 : decide (t139.size + a0.size ≤ 9223372036854775807) = true := decide_eq_true c5
    try have c5b2 : (9223372036854775807 < t139.size + a0.size) = False := eq_false (Nat.not_lt.2 c5)
    obtain rfl := Option.some.inj H
    go_enter Tryd.func68, Tryd.ntmps68
    go_wp2_with (first | ((with_reducible refine gate_callee (f := 83) rfl ?_); refine goesL_ (some 10) rfl rfl Tryd.func83 (by kernel_rfl) rfl #[.string (⟨#[48]⟩ : ByteArray), .int .i64 ji3] rfl (by (try simp only [List.map_toArray, List.map_cons, List.map_nil]); first | done | (simp only [hji3]; rfl) | rfl | (simp only [List.length_drop, List.length_take]; rfl)) ?_; (with_reducible refine (strings_Repeat.calls (⟨#[48]⟩ : ByteArray) ji3 t139 _ A4.out).mono ?_); rintro e w6 ⟨rfl, hb⟩; refine ⟨_, rfl, ?_⟩; have n0_ := Aside0.mk (below_step (by repeat (first | (with_reducible first | exact HB.out | apply below_alloc | apply pw_below_drewN | apply below_drew1) | exact HB.out)) hb); clear HB; have HB := n0_; clear n0_; (try clear hb); (try clear hb2); (try clear hk); (try clear hi)))
    go_ret
    exact ⟨by first | rfl | (simp [errW_none, errW_some] <;> rfl) | (simp only [← hji3]; first | rfl | (simp [errW_none, errW_some] <;> rfl)) | (simp [*, errW_none, errW_some] <;> rfl), by repeat (first | (with_reducible first | exact HB.out | apply below_alloc | apply pw_below_drewN | apply below_drew1) | exact HB.out)⟩
  · rw [if_neg c5] at H
    exact absurd H (by simp)

/-! ### num_FormatDec: function 48, by hand -/
def num_FormatDec.sgn (b : Bool) (s : ByteArray) : ByteArray := if b = true then (⟨#[45]⟩ : ByteArray) ++ s else s
def num_FormatDec.pnt (n : Nat) (p : ByteArray) : ByteArray := if 0 < n then (p.extract 0 (p.size - n) ++ (⟨#[46]⟩ : ByteArray)) ++ p.extract (p.size - n) p.size else p
def num_FormatDec.f (a0 : Int) (a1 : Int) : Option (ByteArray × Int) := (num_scale.f a1).bind fun t => (if t = true then (if 0 ≤ a1 then (if a1 ≤ 1000 then ((num_FormatInt.f a0).bind fun s => ((strings_CutPrefix.f s (⟨#[45]⟩ : ByteArray)).bind fun c => ((num_pad.f c.1 (wrap64 (a1 + 1))).bind fun p => (if p.size ≤ 1000000 ∧ a1.toNat ≤ p.size then some (num_FormatDec.sgn c.2 (num_FormatDec.pnt a1.toNat p), 0) else none)))) else none) else none) else some ((⟨#[]⟩ : ByteArray), 1))
set_option maxHeartbeats 8000000 in
set_option maxRecDepth 100000 in
theorem num_FormatDec.no (a0 a1 : Int) (w : World) (ht : num_scale.f a1 = some false) :
    Calls Tryd.prog 48 #[.int .i64 a0, .int .i64 a1] w fun e w' => e = .returned (.tuple #[.string (⟨#[]⟩ : ByteArray), .int .i64 1]) ∧ Below w.heap.size w w' := by
  have HB := Aside0.mk (Below.refl w.heap.size w)
  have A3 := Aside0.mk ht
  clear ht
  go_enter Tryd.func48, Tryd.ntmps48
  go_wp2_with ((go_at_call 66; (with_reducible refine (num_scale.calls a1 false _ A3.out).mono ?_); rintro e w' ⟨rfl, ⟨nd, rfl⟩⟩; (try first | exact ⟨rfl, _, World.drewN_drewN _ _ _⟩ | exact ⟨rfl, _, Eq.trans (World.drewN_drewN _ _ _) (congrArg (World.drewN _) (Nat.add_assoc _ _ _))⟩)))
  go_ret2
  exact ⟨by first | rfl | (simp; done) | (simp [*]; done), by repeat (first | (with_reducible first | exact HB.out | apply below_alloc | apply pw_below_drewN | apply below_drew1) | exact HB.out)⟩
set_option maxHeartbeats 8000000 in
set_option maxRecDepth 100000 in
theorem num_FormatDec.yes00 (a0 : Int) (s c p : ByteArray) (w : World) (hG : Gl w) (h3 : num_scale.f 0 = some true) (h5 : num_FormatInt.f a0 = some s) (h6 : strings_CutPrefix.f s (⟨#[45]⟩ : ByteArray) = some (c, false)) (h7 : num_pad.f c 1 = some p) (hp : p.size ≤ 1000000) :
    Calls Tryd.prog 48 #[.int .i64 a0, .int .i64 0] w fun e w' => e = .returned (.tuple #[.string (p), .int .i64 0]) ∧ Below w.heap.size w w' := by
  have HB := Aside0.mk (Below.refl w.heap.size w)
  have HG := Aside0.mk hG
  have A3 := Aside0.mk h3
  have A5 := Aside0.mk h5
  have A6 := Aside0.mk h6
  have A7 := Aside0.mk h7
  clear hG h3 h5 h6 h7
  go_enter Tryd.func48, Tryd.ntmps48
  go_wp2_with (first | (go_at_call 66; (with_reducible refine (num_scale.calls 0 true _ A3.out).mono ?_); rintro e w' ⟨rfl, ⟨nd, rfl⟩⟩; (try first | exact ⟨rfl, _, World.drewN_drewN _ _ _⟩ | exact ⟨rfl, _, Eq.trans (World.drewN_drewN _ _ _) (congrArg (World.drewN _) (Nat.add_assoc _ _ _))⟩)) | (go_at_call 46; (with_reducible refine (num_FormatInt.calls a0 s _ A5.out (Gl.of HG.out (by repeat (first | exact HB.out | apply below_alloc | apply pw_below_drewN | apply below_drew1)))).mono ?_); rintro e w8 ⟨rfl, hb⟩; have n0_ := Aside0.mk (below_step (by repeat (first | (with_reducible first | exact HB.out | apply below_alloc | apply pw_below_drewN | apply below_drew1) | exact HB.out)) hb); clear HB; have HB := n0_; clear n0_; clear hb) | (go_at_call 67; (with_reducible refine (strings_CutPrefix.calls s (⟨#[45]⟩ : ByteArray) c false _ A6.out).mono ?_); rintro e w' ⟨rfl, ⟨nd, rfl⟩⟩; (try first | exact ⟨rfl, _, World.drewN_drewN _ _ _⟩ | exact ⟨rfl, _, Eq.trans (World.drewN_drewN _ _ _) (congrArg (World.drewN _) (Nat.add_assoc _ _ _))⟩)) | (go_at_call 68; (with_reducible refine (num_pad.calls c 1 p _ A7.out).mono ?_); rintro e w9 ⟨rfl, hb⟩; have n0_ := Aside0.mk (below_step (by repeat (first | (with_reducible first | exact HB.out | apply below_alloc | apply pw_below_drewN | apply below_drew1) | exact HB.out)) hb); clear HB; have HB := n0_; clear n0_; clear hb))
  go_ret2
  exact ⟨by first | rfl | (simp; done) | (simp [*]; done), by repeat (first | (with_reducible first | exact HB.out | apply below_alloc | apply pw_below_drewN | apply below_drew1) | exact HB.out)⟩
set_option maxHeartbeats 8000000 in
set_option maxRecDepth 100000 in
theorem num_FormatDec.yes01 (a0 : Int) (s c p : ByteArray) (w : World) (hG : Gl w) (h3 : num_scale.f 0 = some true) (h5 : num_FormatInt.f a0 = some s) (h6 : strings_CutPrefix.f s (⟨#[45]⟩ : ByteArray) = some (c, true)) (h7 : num_pad.f c 1 = some p) (hp : p.size ≤ 1000000) :
    Calls Tryd.prog 48 #[.int .i64 a0, .int .i64 0] w fun e w' => e = .returned (.tuple #[.string ((⟨#[45]⟩ : ByteArray) ++ p), .int .i64 0]) ∧ Below w.heap.size w w' := by
  have HB := Aside0.mk (Below.refl w.heap.size w)
  have HG := Aside0.mk hG
  have A3 := Aside0.mk h3
  have A5 := Aside0.mk h5
  have A6 := Aside0.mk h6
  have A7 := Aside0.mk h7
  clear hG h3 h5 h6 h7
  go_enter Tryd.func48, Tryd.ntmps48
  go_wp2_with (first | (go_at_call 66; (with_reducible refine (num_scale.calls 0 true _ A3.out).mono ?_); rintro e w' ⟨rfl, ⟨nd, rfl⟩⟩; (try first | exact ⟨rfl, _, World.drewN_drewN _ _ _⟩ | exact ⟨rfl, _, Eq.trans (World.drewN_drewN _ _ _) (congrArg (World.drewN _) (Nat.add_assoc _ _ _))⟩)) | (go_at_call 46; (with_reducible refine (num_FormatInt.calls a0 s _ A5.out (Gl.of HG.out (by repeat (first | exact HB.out | apply below_alloc | apply pw_below_drewN | apply below_drew1)))).mono ?_); rintro e w8 ⟨rfl, hb⟩; have n0_ := Aside0.mk (below_step (by repeat (first | (with_reducible first | exact HB.out | apply below_alloc | apply pw_below_drewN | apply below_drew1) | exact HB.out)) hb); clear HB; have HB := n0_; clear n0_; clear hb) | (go_at_call 67; (with_reducible refine (strings_CutPrefix.calls s (⟨#[45]⟩ : ByteArray) c true _ A6.out).mono ?_); rintro e w' ⟨rfl, ⟨nd, rfl⟩⟩; (try first | exact ⟨rfl, _, World.drewN_drewN _ _ _⟩ | exact ⟨rfl, _, Eq.trans (World.drewN_drewN _ _ _) (congrArg (World.drewN _) (Nat.add_assoc _ _ _))⟩)) | (go_at_call 68; (with_reducible refine (num_pad.calls c 1 p _ A7.out).mono ?_); rintro e w9 ⟨rfl, hb⟩; have n0_ := Aside0.mk (below_step (by repeat (first | (with_reducible first | exact HB.out | apply below_alloc | apply pw_below_drewN | apply below_drew1) | exact HB.out)) hb); clear HB; have HB := n0_; clear n0_; clear hb))
  go_ret2
  exact ⟨by first | rfl | (simp; done) | (simp [*]; done), by repeat (first | (with_reducible first | exact HB.out | apply below_alloc | apply pw_below_drewN | apply below_drew1) | exact HB.out)⟩
set_option maxHeartbeats 8000000 in
set_option maxRecDepth 100000 in
theorem num_FormatDec.yes10 (a0 : Int) (n m : Nat) (s c p : ByteArray) (hn : 1 ≤ n) (hn2 : n ≤ 1000) (hm : m + n = p.size) (w : World) (hG : Gl w) (h3 : num_scale.f (n : Int) = some true) (h5 : num_FormatInt.f a0 = some s) (h6 : strings_CutPrefix.f s (⟨#[45]⟩ : ByteArray) = some (c, false)) (h7 : num_pad.f c ((n : Int) + 1) = some p) (hp : p.size ≤ 1000000) :
    Calls Tryd.prog 48 #[.int .i64 a0, .int .i64 (n : Int)] w fun e w' => e = .returned (.tuple #[.string (((p.extract 0 m ++ (⟨#[46]⟩ : ByteArray)) ++ p.extract m p.size)), .int .i64 0]) ∧ Below w.heap.size w w' := by
  have HB := Aside0.mk (Below.refl w.heap.size w)
  have HG := Aside0.mk hG
  have A3 := Aside0.mk h3
  have A5 := Aside0.mk h5
  have A6 := Aside0.mk h6
  have A7 := Aside0.mk h7
  clear hG h3 h5 h6 h7
  have hw1 : IntKind.i64.wrap ((p.size : Int) - (n : Int)) = (m : Int) := IntWalk.i64_in _ (by omega) |>.trans (by omega)
  have hw2 : wrap64 ((p.size : Int) - (n : Int)) = (m : Int) := by unfold wrap64; omega
  have hmp : m ≤ p.size := by omega
  have hmp2 : (m : Int) ≤ (p.size : Int) := by omega
  have HM := Aside0.mk hm
  clear hm
  go_enter Tryd.func48, Tryd.ntmps48
  go_wp2_with (first | (go_at_call 66; (with_reducible refine (num_scale.calls (n : Int) true _ A3.out).mono ?_); rintro e w' ⟨rfl, ⟨nd, rfl⟩⟩; (try first | exact ⟨rfl, _, World.drewN_drewN _ _ _⟩ | exact ⟨rfl, _, Eq.trans (World.drewN_drewN _ _ _) (congrArg (World.drewN _) (Nat.add_assoc _ _ _))⟩)) | (go_at_call 46; (with_reducible refine (num_FormatInt.calls a0 s _ A5.out (Gl.of HG.out (by repeat (first | exact HB.out | apply below_alloc | apply pw_below_drewN | apply below_drew1)))).mono ?_); rintro e w8 ⟨rfl, hb⟩; have n0_ := Aside0.mk (below_step (by repeat (first | (with_reducible first | exact HB.out | apply below_alloc | apply pw_below_drewN | apply below_drew1) | exact HB.out)) hb); clear HB; have HB := n0_; clear n0_; clear hb) | (go_at_call 67; (with_reducible refine (strings_CutPrefix.calls s (⟨#[45]⟩ : ByteArray) c false _ A6.out).mono ?_); rintro e w' ⟨rfl, ⟨nd, rfl⟩⟩; (try first | exact ⟨rfl, _, World.drewN_drewN _ _ _⟩ | exact ⟨rfl, _, Eq.trans (World.drewN_drewN _ _ _) (congrArg (World.drewN _) (Nat.add_assoc _ _ _))⟩)) | (go_at_call 68; (with_reducible refine (num_pad.calls c ((n : Int) + 1) p _ A7.out).mono ?_); rintro e w9 ⟨rfl, hb⟩; have n0_ := Aside0.mk (below_step (by repeat (first | (with_reducible first | exact HB.out | apply below_alloc | apply pw_below_drewN | apply below_drew1) | exact HB.out)) hb); clear HB; have HB := n0_; clear n0_; clear hb))
  go_quiet (fail)
  go_wp2
  go_ret2
  exact ⟨by first | rfl | (simp; done) | (simp [*]; done), by repeat (first | (with_reducible first | exact HB.out | apply below_alloc | apply pw_below_drewN | apply below_drew1) | exact HB.out)⟩
set_option maxHeartbeats 8000000 in
set_option maxRecDepth 100000 in
theorem num_FormatDec.yes11 (a0 : Int) (n m : Nat) (s c p : ByteArray) (hn : 1 ≤ n) (hn2 : n ≤ 1000) (hm : m + n = p.size) (w : World) (hG : Gl w) (h3 : num_scale.f (n : Int) = some true) (h5 : num_FormatInt.f a0 = some s) (h6 : strings_CutPrefix.f s (⟨#[45]⟩ : ByteArray) = some (c, true)) (h7 : num_pad.f c ((n : Int) + 1) = some p) (hp : p.size ≤ 1000000) :
    Calls Tryd.prog 48 #[.int .i64 a0, .int .i64 (n : Int)] w fun e w' => e = .returned (.tuple #[.string ((⟨#[45]⟩ : ByteArray) ++ ((p.extract 0 m ++ (⟨#[46]⟩ : ByteArray)) ++ p.extract m p.size)), .int .i64 0]) ∧ Below w.heap.size w w' := by
  have HB := Aside0.mk (Below.refl w.heap.size w)
  have HG := Aside0.mk hG
  have A3 := Aside0.mk h3
  have A5 := Aside0.mk h5
  have A6 := Aside0.mk h6
  have A7 := Aside0.mk h7
  clear hG h3 h5 h6 h7
  have hw1 : IntKind.i64.wrap ((p.size : Int) - (n : Int)) = (m : Int) := IntWalk.i64_in _ (by omega) |>.trans (by omega)
  have hw2 : wrap64 ((p.size : Int) - (n : Int)) = (m : Int) := by unfold wrap64; omega
  have hmp : m ≤ p.size := by omega
  have hmp2 : (m : Int) ≤ (p.size : Int) := by omega
  have HM := Aside0.mk hm
  clear hm
  go_enter Tryd.func48, Tryd.ntmps48
  go_wp2_with (first | (go_at_call 66; (with_reducible refine (num_scale.calls (n : Int) true _ A3.out).mono ?_); rintro e w' ⟨rfl, ⟨nd, rfl⟩⟩; (try first | exact ⟨rfl, _, World.drewN_drewN _ _ _⟩ | exact ⟨rfl, _, Eq.trans (World.drewN_drewN _ _ _) (congrArg (World.drewN _) (Nat.add_assoc _ _ _))⟩)) | (go_at_call 46; (with_reducible refine (num_FormatInt.calls a0 s _ A5.out (Gl.of HG.out (by repeat (first | exact HB.out | apply below_alloc | apply pw_below_drewN | apply below_drew1)))).mono ?_); rintro e w8 ⟨rfl, hb⟩; have n0_ := Aside0.mk (below_step (by repeat (first | (with_reducible first | exact HB.out | apply below_alloc | apply pw_below_drewN | apply below_drew1) | exact HB.out)) hb); clear HB; have HB := n0_; clear n0_; clear hb) | (go_at_call 67; (with_reducible refine (strings_CutPrefix.calls s (⟨#[45]⟩ : ByteArray) c true _ A6.out).mono ?_); rintro e w' ⟨rfl, ⟨nd, rfl⟩⟩; (try first | exact ⟨rfl, _, World.drewN_drewN _ _ _⟩ | exact ⟨rfl, _, Eq.trans (World.drewN_drewN _ _ _) (congrArg (World.drewN _) (Nat.add_assoc _ _ _))⟩)) | (go_at_call 68; (with_reducible refine (num_pad.calls c ((n : Int) + 1) p _ A7.out).mono ?_); rintro e w9 ⟨rfl, hb⟩; have n0_ := Aside0.mk (below_step (by repeat (first | (with_reducible first | exact HB.out | apply below_alloc | apply pw_below_drewN | apply below_drew1) | exact HB.out)) hb); clear HB; have HB := n0_; clear n0_; clear hb))
  go_quiet (fail)
  go_wp2
  go_ret2
  exact ⟨by first | rfl | (simp; done) | (simp [*]; done), by repeat (first | (with_reducible first | exact HB.out | apply below_alloc | apply pw_below_drewN | apply below_drew1) | exact HB.out)⟩
theorem num_FormatDec.calls (a0 : Int) (a1 : Int) (r1 : ByteArray) (r2 : Int) (w : World) (h : num_FormatDec.f a0 a1 = some (r1, r2)) (hG : Gl w) :
    Calls Tryd.prog 48 #[.int .i64 a0, .int .i64 a1] w fun e w' => e = .returned (.tuple #[.string r1, .int .i64 r2]) ∧ Below w.heap.size w w' := by
  unfold num_FormatDec.f at h
  obtain ⟨t, ht, h⟩ := Option.bind_eq_some_iff.mp h
  cases t with
  | false =>
    rw [if_neg (by simp)] at h
    simp only [Option.some.injEq, Prod.mk.injEq] at h
    obtain ⟨rfl, rfl⟩ := h
    exact num_FormatDec.no a0 a1 w ht
  | true =>
    rw [if_pos rfl] at h
    by_cases h1 : 0 ≤ a1
    · rw [if_pos h1] at h
      by_cases h2 : a1 ≤ 1000
      · rw [if_pos h2] at h
        obtain ⟨s, hs, h⟩ := Option.bind_eq_some_iff.mp h
        obtain ⟨⟨c, b⟩, hc, h⟩ := Option.bind_eq_some_iff.mp h
        obtain ⟨p, hp, h⟩ := Option.bind_eq_some_iff.mp h
        by_cases h3 : p.size ≤ 1000000 ∧ a1.toNat ≤ p.size
        · rw [if_pos h3] at h
          simp only [Option.some.injEq, Prod.mk.injEq] at h
          obtain ⟨rfl, rfl⟩ := h
          obtain ⟨n, rfl⟩ := Int.eq_ofNat_of_zero_le h1
          obtain ⟨h3, h4⟩ := h3
          rw [Int.toNat_natCast] at h4 ⊢
          cases n with
          | zero =>
            rw [show wrap64 (((0 : Nat) : Int) + 1) = 1 from by unfold wrap64; omega] at hp
            cases b with
            | true => exact num_FormatDec.yes01 a0 s c p w hG ht hs hc hp h3
            | false => exact num_FormatDec.yes00 a0 s c p w hG ht hs hc hp h3
          | succ n =>
            rw [show wrap64 (((n + 1 : Nat) : Int) + 1) = ((n + 1 : Nat) : Int) + 1 from by unfold wrap64; omega] at hp
            cases b with
            | true => exact num_FormatDec.yes11 a0 (n + 1) (p.size - (n + 1)) s c p (by omega) (by omega) (by omega) w hG ht hs hc hp h3
            | false => exact num_FormatDec.yes10 a0 (n + 1) (p.size - (n + 1)) s c p (by omega) (by omega) (by omega) w hG ht hs hc hp h3
        · rw [if_neg h3] at h; exact absurd h (by simp)
      · rw [if_neg h2] at h; exact absurd h (by simp)
    · rw [if_neg h1] at h; exact absurd h (by simp)


/-! ### num_years: function 84 -/
def num_years.f (a0 : Int) : Option (Int) := some (wrap64 ((wrap64 ((wrap64 ((wrap64 ((wrap64 (a0 - 1)) * 365)) + (wrap64 (Int.tdiv (wrap64 (a0 - 1)) 4)))) - (wrap64 (Int.tdiv (wrap64 (a0 - 1)) 100)))) + (wrap64 (Int.tdiv (wrap64 (a0 - 1)) 400))))
set_option maxHeartbeats 8000000 in
set_option maxRecDepth 100000 in
theorem num_years.calls (a0 : Int) (r : Int) (w : World) (h : num_years.f a0 = some r) :
    Calls Tryd.prog 84 #[.int .i64 a0] w fun e w' => e = .returned (.int .i64 r) ∧ Drawn0 w w' := by
  have H : (some (wrap64 ((wrap64 ((wrap64 ((wrap64 ((wrap64 (a0 - 1)) * 365)) + (wrap64 (Int.tdiv (wrap64 (a0 - 1)) 4)))) - (wrap64 (Int.tdiv (wrap64 (a0 - 1)) 100)))) + (wrap64 (Int.tdiv (wrap64 (a0 - 1)) 400))))) = some r := h
  clear h
  obtain rfl := Option.some.inj H
  go_enter Tryd.func84, Tryd.ntmps84
  go_wp2
  go_ret
  exact ⟨by first | rfl | (simp; done) | (simp [*]; done), by repeat (first | exact Drawn0.refl _ | apply Drawn0.step)⟩

/-! ### num_leap: function 103 -/
def num_leap.f (a0 : Int) : Option (Int) := if (Int.tmod a0 4) = 0 then (if (Int.tmod a0 100) = 0 then (if (Int.tmod a0 400) = 0 then (some 1) else (some 0)) else (some 1)) else (if (Int.tmod a0 400) = 0 then (some 1) else (some 0))
set_option maxHeartbeats 8000000 in
set_option maxRecDepth 100000 in
theorem num_leap.calls (a0 : Int) (r : Int) (w : World) (h : num_leap.f a0 = some r) :
    Calls Tryd.prog 103 #[.int .i64 a0] w fun e w' => e = .returned (.int .i64 r) ∧ Drawn0 w w' := by
  have H : (if (Int.tmod a0 4) = 0 then (if (Int.tmod a0 100) = 0 then (if (Int.tmod a0 400) = 0 then (some 1) else (some 0)) else (some 1)) else (if (Int.tmod a0 400) = 0 then (some 1) else (some 0))) = some r := h
  clear h
  by_cases c2 : (Int.tmod a0 4) = 0
  · rw [if_pos c2] at H
    have c2b0 : ((Int.tmod a0 4) == 0) = true := beq_iff_eq.mpr c2
    have c2b1 : ((Int.tmod a0 4) != 0) = false := bne_eq_false_iff_eq.mpr c2
    clear c2
    by_cases c3 : (Int.tmod a0 100) = 0
    · rw [if_pos c3] at H
      have c3b0 : ((Int.tmod a0 100) == 0) = true := beq_iff_eq.mpr c3
      have c3b1 : ((Int.tmod a0 100) != 0) = false := bne_eq_false_iff_eq.mpr c3
      clear c3
      by_cases c4 : (Int.tmod a0 400) = 0
      · rw [if_pos c4] at H
        have c4b0 : ((Int.tmod a0 400) == 0) = true := beq_iff_eq.mpr c4
        have c4b1 : ((Int.tmod a0 400) != 0) = false := bne_eq_false_iff_eq.mpr c4
        clear c4
        obtain rfl := Option.some.inj H
        go_enter Tryd.func103, Tryd.ntmps103
        go_wp2
        go_ret
        exact ⟨by first | rfl | (simp; done) | (simp [*]; done), by repeat (first | exact Drawn0.refl _ | apply Drawn0.step)⟩
      · rw [if_neg c4] at H
        have c4b0 : ((Int.tmod a0 400) == 0) = false := beq_eq_false_iff_ne.mpr c4
        have c4b1 : ((Int.tmod a0 400) != 0) = true := bne_iff_ne.mpr c4
        obtain rfl := Option.some.inj H
        go_enter Tryd.func103, Tryd.ntmps103
        go_wp2
        go_ret
        exact ⟨by first | rfl | (simp; done) | (simp [*]; done), by repeat (first | exact Drawn0.refl _ | apply Drawn0.step)⟩
    · rw [if_neg c3] at H
      have c3b0 : ((Int.tmod a0 100) == 0) = false := beq_eq_false_iff_ne.mpr c3
      have c3b1 : ((Int.tmod a0 100) != 0) = true := bne_iff_ne.mpr c3
      obtain rfl := Option.some.inj H
      go_enter Tryd.func103, Tryd.ntmps103
      go_wp2
      go_ret
      exact ⟨by first | rfl | (simp; done) | (simp [*]; done), by repeat (first | exact Drawn0.refl _ | apply Drawn0.step)⟩
  · rw [if_neg c2] at H
    have c2b0 : ((Int.tmod a0 4) == 0) = false := beq_eq_false_iff_ne.mpr c2
    have c2b1 : ((Int.tmod a0 4) != 0) = true := bne_iff_ne.mpr c2
    by_cases c5 : (Int.tmod a0 400) = 0
    · rw [if_pos c5] at H
      have c5b0 : ((Int.tmod a0 400) == 0) = true := beq_iff_eq.mpr c5
      have c5b1 : ((Int.tmod a0 400) != 0) = false := bne_eq_false_iff_eq.mpr c5
      clear c5
      obtain rfl := Option.some.inj H
      go_enter Tryd.func103, Tryd.ntmps103
      go_wp2
      go_ret
      exact ⟨by first | rfl | (simp; done) | (simp [*]; done), by repeat (first | exact Drawn0.refl _ | apply Drawn0.step)⟩
    · rw [if_neg c5] at H
      have c5b0 : ((Int.tmod a0 400) == 0) = false := beq_eq_false_iff_ne.mpr c5
      have c5b1 : ((Int.tmod a0 400) != 0) = true := bne_iff_ne.mpr c5
      obtain rfl := Option.some.inj H
      go_enter Tryd.func103, Tryd.ntmps103
      go_wp2
      go_ret
      exact ⟨by first | rfl | (simp; done) | (simp [*]; done), by repeat (first | exact Drawn0.refl _ | apply Drawn0.step)⟩

/-! ### num_month: function 85, by hand -/
def num_month.f (a0 : Int) (a1 : Int) : Option (Int) := if 1 ≤ a1 then (if a1 ≤ 12 then ((num_leap.f a0).bind fun t => (some (if a1 = 2 then wrap64 (28 + t) else if a1 = 4 ∨ a1 = 6 ∨ a1 = 9 ∨ a1 = 11 then 30 else 31))) else none) else none
set_option maxHeartbeats 8000000 in
set_option maxRecDepth 100000 in
theorem num_month.at1 (a0 t : Int) (w : World) (ht : num_leap.f a0 = some t) :
    Calls Tryd.prog 85 #[.int .i64 a0, .int .i64 1] w fun e w' => e = .returned (.int .i64 31) ∧ Drawn0 w w' := by
  have hA := Aside0.mk ht
  clear ht
  have hx : ∀ W : World, (Instr.index 112 (.agg #[Value.int .i64 31, Value.int .i64 28, Value.int .i64 31, Value.int .i64 30, Value.int .i64 31, Value.int .i64 30, Value.int .i64 31, Value.int .i64 31, Value.int .i64 30, Value.int .i64 31, Value.int .i64 30, Value.int .i64 31]) (.int .i64 0)).run Tryd.prog W = .ok (.int .i64 31) W := fun W => by kernel_rfl
  go_enter Tryd.func85, Tryd.ntmps85
  go_wp2
  go_ret
  exact ⟨by first | rfl | (simp; done) | (simp [*]; done), by repeat (first | exact Drawn0.refl _ | apply Drawn0.step)⟩
set_option maxHeartbeats 8000000 in
set_option maxRecDepth 100000 in
theorem num_month.at2 (a0 t : Int) (w : World) (ht : num_leap.f a0 = some t) :
    Calls Tryd.prog 85 #[.int .i64 a0, .int .i64 2] w fun e w' => e = .returned (.int .i64 (wrap64 (28 + t))) ∧ Drawn0 w w' := by
  have hA := Aside0.mk ht
  clear ht
  have hx : ∀ W : World, (Instr.index 112 (.agg #[Value.int .i64 31, Value.int .i64 28, Value.int .i64 31, Value.int .i64 30, Value.int .i64 31, Value.int .i64 30, Value.int .i64 31, Value.int .i64 31, Value.int .i64 30, Value.int .i64 31, Value.int .i64 30, Value.int .i64 31]) (.int .i64 1)).run Tryd.prog W = .ok (.int .i64 28) W := fun W => by kernel_rfl
  go_enter Tryd.func85, Tryd.ntmps85
  go_wp2_with ((with_reducible refine gate_callee (f := 103) rfl ?_); refine goesL_ _ rfl rfl Tryd.func103 (by kernel_rfl) rfl #[.int .i64 a0] rfl (by (try simp only [List.map_toArray, List.map_cons, List.map_nil]); first | done | rfl | (simp only [List.length_drop, List.length_take]; rfl)) ?_; (with_reducible refine (num_leap.calls a0 t _ hA.out).mono ?_); rintro e w' ⟨rfl, ⟨nd, rfl⟩⟩; refine ⟨_, rfl, ?_⟩)
  go_ret
  exact ⟨by first | rfl | (simp; done) | (simp [*]; done), by repeat (first | exact Drawn0.refl _ | apply Drawn0.step)⟩
set_option maxHeartbeats 8000000 in
set_option maxRecDepth 100000 in
theorem num_month.at3 (a0 t : Int) (w : World) (ht : num_leap.f a0 = some t) :
    Calls Tryd.prog 85 #[.int .i64 a0, .int .i64 3] w fun e w' => e = .returned (.int .i64 31) ∧ Drawn0 w w' := by
  have hA := Aside0.mk ht
  clear ht
  have hx : ∀ W : World, (Instr.index 112 (.agg #[Value.int .i64 31, Value.int .i64 28, Value.int .i64 31, Value.int .i64 30, Value.int .i64 31, Value.int .i64 30, Value.int .i64 31, Value.int .i64 31, Value.int .i64 30, Value.int .i64 31, Value.int .i64 30, Value.int .i64 31]) (.int .i64 2)).run Tryd.prog W = .ok (.int .i64 31) W := fun W => by kernel_rfl
  go_enter Tryd.func85, Tryd.ntmps85
  go_wp2
  go_ret
  exact ⟨by first | rfl | (simp; done) | (simp [*]; done), by repeat (first | exact Drawn0.refl _ | apply Drawn0.step)⟩
set_option maxHeartbeats 8000000 in
set_option maxRecDepth 100000 in
theorem num_month.at4 (a0 t : Int) (w : World) (ht : num_leap.f a0 = some t) :
    Calls Tryd.prog 85 #[.int .i64 a0, .int .i64 4] w fun e w' => e = .returned (.int .i64 30) ∧ Drawn0 w w' := by
  have hA := Aside0.mk ht
  clear ht
  have hx : ∀ W : World, (Instr.index 112 (.agg #[Value.int .i64 31, Value.int .i64 28, Value.int .i64 31, Value.int .i64 30, Value.int .i64 31, Value.int .i64 30, Value.int .i64 31, Value.int .i64 31, Value.int .i64 30, Value.int .i64 31, Value.int .i64 30, Value.int .i64 31]) (.int .i64 3)).run Tryd.prog W = .ok (.int .i64 30) W := fun W => by kernel_rfl
  go_enter Tryd.func85, Tryd.ntmps85
  go_wp2
  go_ret
  exact ⟨by first | rfl | (simp; done) | (simp [*]; done), by repeat (first | exact Drawn0.refl _ | apply Drawn0.step)⟩
set_option maxHeartbeats 8000000 in
set_option maxRecDepth 100000 in
theorem num_month.at5 (a0 t : Int) (w : World) (ht : num_leap.f a0 = some t) :
    Calls Tryd.prog 85 #[.int .i64 a0, .int .i64 5] w fun e w' => e = .returned (.int .i64 31) ∧ Drawn0 w w' := by
  have hA := Aside0.mk ht
  clear ht
  have hx : ∀ W : World, (Instr.index 112 (.agg #[Value.int .i64 31, Value.int .i64 28, Value.int .i64 31, Value.int .i64 30, Value.int .i64 31, Value.int .i64 30, Value.int .i64 31, Value.int .i64 31, Value.int .i64 30, Value.int .i64 31, Value.int .i64 30, Value.int .i64 31]) (.int .i64 4)).run Tryd.prog W = .ok (.int .i64 31) W := fun W => by kernel_rfl
  go_enter Tryd.func85, Tryd.ntmps85
  go_wp2
  go_ret
  exact ⟨by first | rfl | (simp; done) | (simp [*]; done), by repeat (first | exact Drawn0.refl _ | apply Drawn0.step)⟩
set_option maxHeartbeats 8000000 in
set_option maxRecDepth 100000 in
theorem num_month.at6 (a0 t : Int) (w : World) (ht : num_leap.f a0 = some t) :
    Calls Tryd.prog 85 #[.int .i64 a0, .int .i64 6] w fun e w' => e = .returned (.int .i64 30) ∧ Drawn0 w w' := by
  have hA := Aside0.mk ht
  clear ht
  have hx : ∀ W : World, (Instr.index 112 (.agg #[Value.int .i64 31, Value.int .i64 28, Value.int .i64 31, Value.int .i64 30, Value.int .i64 31, Value.int .i64 30, Value.int .i64 31, Value.int .i64 31, Value.int .i64 30, Value.int .i64 31, Value.int .i64 30, Value.int .i64 31]) (.int .i64 5)).run Tryd.prog W = .ok (.int .i64 30) W := fun W => by kernel_rfl
  go_enter Tryd.func85, Tryd.ntmps85
  go_wp2
  go_ret
  exact ⟨by first | rfl | (simp; done) | (simp [*]; done), by repeat (first | exact Drawn0.refl _ | apply Drawn0.step)⟩
set_option maxHeartbeats 8000000 in
set_option maxRecDepth 100000 in
theorem num_month.at7 (a0 t : Int) (w : World) (ht : num_leap.f a0 = some t) :
    Calls Tryd.prog 85 #[.int .i64 a0, .int .i64 7] w fun e w' => e = .returned (.int .i64 31) ∧ Drawn0 w w' := by
  have hA := Aside0.mk ht
  clear ht
  have hx : ∀ W : World, (Instr.index 112 (.agg #[Value.int .i64 31, Value.int .i64 28, Value.int .i64 31, Value.int .i64 30, Value.int .i64 31, Value.int .i64 30, Value.int .i64 31, Value.int .i64 31, Value.int .i64 30, Value.int .i64 31, Value.int .i64 30, Value.int .i64 31]) (.int .i64 6)).run Tryd.prog W = .ok (.int .i64 31) W := fun W => by kernel_rfl
  go_enter Tryd.func85, Tryd.ntmps85
  go_wp2
  go_ret
  exact ⟨by first | rfl | (simp; done) | (simp [*]; done), by repeat (first | exact Drawn0.refl _ | apply Drawn0.step)⟩
set_option maxHeartbeats 8000000 in
set_option maxRecDepth 100000 in
theorem num_month.at8 (a0 t : Int) (w : World) (ht : num_leap.f a0 = some t) :
    Calls Tryd.prog 85 #[.int .i64 a0, .int .i64 8] w fun e w' => e = .returned (.int .i64 31) ∧ Drawn0 w w' := by
  have hA := Aside0.mk ht
  clear ht
  have hx : ∀ W : World, (Instr.index 112 (.agg #[Value.int .i64 31, Value.int .i64 28, Value.int .i64 31, Value.int .i64 30, Value.int .i64 31, Value.int .i64 30, Value.int .i64 31, Value.int .i64 31, Value.int .i64 30, Value.int .i64 31, Value.int .i64 30, Value.int .i64 31]) (.int .i64 7)).run Tryd.prog W = .ok (.int .i64 31) W := fun W => by kernel_rfl
  go_enter Tryd.func85, Tryd.ntmps85
  go_wp2
  go_ret
  exact ⟨by first | rfl | (simp; done) | (simp [*]; done), by repeat (first | exact Drawn0.refl _ | apply Drawn0.step)⟩
set_option maxHeartbeats 8000000 in
set_option maxRecDepth 100000 in
theorem num_month.at9 (a0 t : Int) (w : World) (ht : num_leap.f a0 = some t) :
    Calls Tryd.prog 85 #[.int .i64 a0, .int .i64 9] w fun e w' => e = .returned (.int .i64 30) ∧ Drawn0 w w' := by
  have hA := Aside0.mk ht
  clear ht
  have hx : ∀ W : World, (Instr.index 112 (.agg #[Value.int .i64 31, Value.int .i64 28, Value.int .i64 31, Value.int .i64 30, Value.int .i64 31, Value.int .i64 30, Value.int .i64 31, Value.int .i64 31, Value.int .i64 30, Value.int .i64 31, Value.int .i64 30, Value.int .i64 31]) (.int .i64 8)).run Tryd.prog W = .ok (.int .i64 30) W := fun W => by kernel_rfl
  go_enter Tryd.func85, Tryd.ntmps85
  go_wp2
  go_ret
  exact ⟨by first | rfl | (simp; done) | (simp [*]; done), by repeat (first | exact Drawn0.refl _ | apply Drawn0.step)⟩
set_option maxHeartbeats 8000000 in
set_option maxRecDepth 100000 in
theorem num_month.at10 (a0 t : Int) (w : World) (ht : num_leap.f a0 = some t) :
    Calls Tryd.prog 85 #[.int .i64 a0, .int .i64 10] w fun e w' => e = .returned (.int .i64 31) ∧ Drawn0 w w' := by
  have hA := Aside0.mk ht
  clear ht
  have hx : ∀ W : World, (Instr.index 112 (.agg #[Value.int .i64 31, Value.int .i64 28, Value.int .i64 31, Value.int .i64 30, Value.int .i64 31, Value.int .i64 30, Value.int .i64 31, Value.int .i64 31, Value.int .i64 30, Value.int .i64 31, Value.int .i64 30, Value.int .i64 31]) (.int .i64 9)).run Tryd.prog W = .ok (.int .i64 31) W := fun W => by kernel_rfl
  go_enter Tryd.func85, Tryd.ntmps85
  go_wp2
  go_ret
  exact ⟨by first | rfl | (simp; done) | (simp [*]; done), by repeat (first | exact Drawn0.refl _ | apply Drawn0.step)⟩
set_option maxHeartbeats 8000000 in
set_option maxRecDepth 100000 in
theorem num_month.at11 (a0 t : Int) (w : World) (ht : num_leap.f a0 = some t) :
    Calls Tryd.prog 85 #[.int .i64 a0, .int .i64 11] w fun e w' => e = .returned (.int .i64 30) ∧ Drawn0 w w' := by
  have hA := Aside0.mk ht
  clear ht
  have hx : ∀ W : World, (Instr.index 112 (.agg #[Value.int .i64 31, Value.int .i64 28, Value.int .i64 31, Value.int .i64 30, Value.int .i64 31, Value.int .i64 30, Value.int .i64 31, Value.int .i64 31, Value.int .i64 30, Value.int .i64 31, Value.int .i64 30, Value.int .i64 31]) (.int .i64 10)).run Tryd.prog W = .ok (.int .i64 30) W := fun W => by kernel_rfl
  go_enter Tryd.func85, Tryd.ntmps85
  go_wp2
  go_ret
  exact ⟨by first | rfl | (simp; done) | (simp [*]; done), by repeat (first | exact Drawn0.refl _ | apply Drawn0.step)⟩
set_option maxHeartbeats 8000000 in
set_option maxRecDepth 100000 in
theorem num_month.at12 (a0 t : Int) (w : World) (ht : num_leap.f a0 = some t) :
    Calls Tryd.prog 85 #[.int .i64 a0, .int .i64 12] w fun e w' => e = .returned (.int .i64 31) ∧ Drawn0 w w' := by
  have hA := Aside0.mk ht
  clear ht
  have hx : ∀ W : World, (Instr.index 112 (.agg #[Value.int .i64 31, Value.int .i64 28, Value.int .i64 31, Value.int .i64 30, Value.int .i64 31, Value.int .i64 30, Value.int .i64 31, Value.int .i64 31, Value.int .i64 30, Value.int .i64 31, Value.int .i64 30, Value.int .i64 31]) (.int .i64 11)).run Tryd.prog W = .ok (.int .i64 31) W := fun W => by kernel_rfl
  go_enter Tryd.func85, Tryd.ntmps85
  go_wp2
  go_ret
  exact ⟨by first | rfl | (simp; done) | (simp [*]; done), by repeat (first | exact Drawn0.refl _ | apply Drawn0.step)⟩
theorem num_month.calls (a0 : Int) (a1 : Int) (r : Int) (w : World) (h : num_month.f a0 a1 = some r) :
    Calls Tryd.prog 85 #[.int .i64 a0, .int .i64 a1] w fun e w' => e = .returned (.int .i64 r) ∧ Drawn0 w w' := by
  unfold num_month.f at h
  by_cases h1 : 1 ≤ a1
  · rw [if_pos h1] at h
    by_cases h2 : a1 ≤ 12
    · rw [if_pos h2] at h
      obtain ⟨t, ht, hr⟩ := Option.bind_eq_some_iff.mp h
      have hr := Option.some.inj hr
      have hc : a1 = 1 ∨ a1 = 2 ∨ a1 = 3 ∨ a1 = 4 ∨ a1 = 5 ∨ a1 = 6 ∨ a1 = 7 ∨ a1 = 8 ∨ a1 = 9 ∨ a1 = 10 ∨ a1 = 11 ∨ a1 = 12 := by omega
      rcases hc with rfl | rfl | rfl | rfl | rfl | rfl | rfl | rfl | rfl | rfl | rfl | rfl
      · simp at hr; subst hr; exact num_month.at1 a0 t w ht
      · simp at hr; subst hr; exact num_month.at2 a0 t w ht
      · simp at hr; subst hr; exact num_month.at3 a0 t w ht
      · simp at hr; subst hr; exact num_month.at4 a0 t w ht
      · simp at hr; subst hr; exact num_month.at5 a0 t w ht
      · simp at hr; subst hr; exact num_month.at6 a0 t w ht
      · simp at hr; subst hr; exact num_month.at7 a0 t w ht
      · simp at hr; subst hr; exact num_month.at8 a0 t w ht
      · simp at hr; subst hr; exact num_month.at9 a0 t w ht
      · simp at hr; subst hr; exact num_month.at10 a0 t w ht
      · simp at hr; subst hr; exact num_month.at11 a0 t w ht
      · simp at hr; subst hr; exact num_month.at12 a0 t w ht
    · rw [if_neg h2] at h; exact absurd h (by simp)
  · rw [if_neg h1] at h; exact absurd h (by simp)


end Go.Proofs.YtjpgjggbanpegaaDoor.C
