/- PRINTED BY A PROGRAM OF THIS SESSION (px.py, over the kit's print): Lean functions with the answers of Go functions of the given program, and proofs that the Go code comes to these answers; each under the conditions that its theorem states. -/
import Derived.Test.YtmpamcfeijnafaaDoorP0
namespace Go.Proofs.YtmpamcfeijnafaaDoor.P
open Go.RowKit Go.Proofs.YtmpamcfeijnafaaDoorW.PrintWords Go.Proofs.YtmpamcfeijnafaaDoorW.PrintLast Go.Proofs.YtmpamcfeijnafaaDoorW.PrintMore
attribute [local go_sem] max2_int min2_int max_two min_two max_three min_three max_four min_four   -- for this text's walks alone
set_option linter.unusedVariables false
set_option linter.unusedSimpArgs false

/-! ### strings_IndexByte: function 35, by hand -/
def strings_IndexByte.f (a0 : ByteArray) (a1 : Int) : Option (Int) := some (Lib.indexByte a0.data.toList a1.toNat.toUInt8)
theorem strings_IndexByte.calls (a0 : ByteArray) (a1 : Int) (r : Int) (w : World) (h : strings_IndexByte.f a0 a1 = some r) :
    Calls Tryd.prog 35 #[.string a0, .int .u8 a1] w fun e w' => e = .returned (.int .i64 r) ∧ Drawn0 w w' := by
  obtain rfl := Option.some.inj h
  refine (Tryd.strings_IndexByte a0 a1 w).mono ?_
  rintro e w' ⟨rfl, rfl⟩
  exact ⟨rfl, Drawn0.refl _⟩


/-! ### lex_is: function 36 -/
def lex_is.f (a0 : Int) (a1 : ByteArray) : Option (Bool) := (strings_IndexByte.f a1 a0).bind fun t101 => (some (decide (t101 ≥ 0)))
set_option maxHeartbeats 8000000 in
set_option maxRecDepth 100000 in
theorem lex_is.calls (a0 : Int) (a1 : ByteArray) (r : Bool) (w : World) (h : lex_is.f a0 a1 = some r) :
    Calls Tryd.prog 36 #[.int .u8 a0, .string a1] w fun e w' => e = .returned (.bool r) ∧ Drawn0 w w' := by
  have H : ((strings_IndexByte.f a1 a0).bind fun t101 => (some (decide (t101 ≥ 0)))) = some r := h
  clear h
  replace H := Option.bind_eq_some_iff.mp H
  obtain ⟨t101, A30, H⟩ := H
  replace H : (some (decide (t101 ≥ 0))) = some r := H
  have A3 := Aside0.mk A30
  clear A30
  obtain rfl := Option.some.inj H
  go_enter Tryd.func36, Tryd.ntmps36
  go_wp2_with (first | ((with_reducible refine gate_callee (f := 35) rfl ?_); refine goesL_ (some 7) rfl rfl Tryd.func35 (by kernel_rfl) rfl #[.string a1, .int .u8 a0] rfl (by (try simp only [List.map_toArray, List.map_cons, List.map_nil]); first | done | rfl | (simp only [List.length_drop, List.length_take]; rfl)) ?_; (with_reducible refine (strings_IndexByte.calls a1 a0 t101 _ A3.out).mono ?_); rintro e w' ⟨rfl, ⟨nd, rfl⟩⟩; refine ⟨_, rfl, ?_⟩))
  go_ret
  exact ⟨by first | rfl | (simp; done) | (simp [*]; done), by repeat (first | exact Drawn0.refl _ | apply Drawn0.step)⟩

/-! ### lex_run: function 33 -/
def lex_run.l0 : Nat → ByteArray → ByteArray → Int → Option (Int)
  | 0, _, _, _ => none
  | k + 1, x0, x1, x5 => if x5 < (x0.size : Int) then (if 0 ≤ x5 then ((lex_is.f (bt x0 x5) x1).bind fun t102 => (if t102 = true then (lex_run.l0 k x0 x1 (wrap64 (x5 + 1))) else (some x5))) else (none)) else (some x5)
def lex_run.f (k : Nat) (a0 : ByteArray) (a1 : ByteArray) : Option (Int) := lex_run.l0 k a0 a1 0
theorem lex_run.mono_l : ∀ k, (∀ y0 y1 y2, LeO (lex_run.l0 k y0 y1 y2) (lex_run.l0 (k + 1) y0 y1 y2))
  | 0 => fun _ _ _ r h => by simp [lex_run.l0] at h
  | k + 1 => by
    have ih0 := lex_run.mono_l k
    · intro y0 y1 y2
      unfold lex_run.l0
      repeat' first
      | (with_reducible exact ih0 _ _ _)
      | (with_reducible exact LeO.refl _)
      | (with_reducible exact LeO.none _)
      | (with_reducible refine LeO.ite ?_ ?_)
      | (with_reducible refine LeO.bind ?_ (fun _ => ?_))
      | exact ih0 _ _ _
      | exact LeO.none _
      | refine LeO.ite ?_ ?_
      | refine LeO.bind ?_ (fun _ => ?_)
theorem lex_run.mono : ∀ a0 a1 k, LeO (lex_run.f k a0 a1) (lex_run.f (k + 1) a0 a1) := by
  intro a0 a1 k
  have ih0 := lex_run.mono_l k
  unfold lex_run.f
  repeat' first
      | (with_reducible exact ih0 _ _ _)
      | (with_reducible exact LeO.refl _)
      | (with_reducible exact LeO.none _)
      | (with_reducible refine LeO.ite ?_ ?_)
      | (with_reducible refine LeO.bind ?_ (fun _ => ?_))
      | exact ih0 _ _ _
      | exact LeO.none _
      | refine LeO.ite ?_ ?_
      | refine LeO.bind ?_ (fun _ => ?_)
set_option maxHeartbeats 8000000 in
set_option maxRecDepth 100000 in
theorem lex_run.calls (k : Nat) (a0 : ByteArray) (a1 : ByteArray) (r : Int) (w : World) (h : lex_run.f k a0 a1 = some r) :
    Calls Tryd.prog 33 #[.string a0, .string a1] w fun e w' => e = .returned (.int .i64 r) ∧ Drawn0 w w' := by
  have H : (lex_run.l0 k a0 a1 0) = some r := h
  clear h
  have H' := Aside0.mk H
  clear H
  go_enter Tryd.func33, Tryd.ntmps33
  go_wp2
  go_loopg [5] k (fun kq v5 w' => ∃ (x5_1 : Int), v5 = .int .i64 x5_1 ∧ Aside0 (lex_run.l0 kq a0 a1 x5_1 = some r) ∧ Aside0 (kq ≤ k) ∧ Drawn0 w w')
  case atStart => exact ⟨(0), (by first | rfl | (simp; done) | (simp [*]; done)), H', ⟨Nat.le_refl _⟩, by repeat (first | exact Drawn0.refl _ | apply Drawn0.step)⟩
  case round =>
    clear H'
    try clear p2
    obtain ⟨x5_1, rfl, HA, HK1, ⟨m1, rfl⟩⟩ := hrel
    cases gk with
    | zero => exact absurd HA.out (by simp [lex_run.l0])
    | succ k1 =>
      have H := HA.out
      clear HA
      simp only [lex_run.l0] at H
      by_cases c3 : x5_1 < (a0.size : Int)
      · rw [if_pos c3] at H
        have c3b0 : decide (x5_1 < (a0.size : Int)) = true := decide_eq_true c3
        clear c3
        by_cases c4 : 0 ≤ x5_1
        · rw [if_pos c4] at H
          have c4b0 : decide (0 ≤ x5_1) = true := decide_eq_true c4
          clear c4
          replace H := Option.bind_eq_some_iff.mp H
          obtain ⟨t102, A60, H⟩ := H
          replace H : (if t102 = true then (lex_run.l0 k1 a0 a1 (wrap64 (x5_1 + 1))) else (some x5_1)) = some r := H
          have A6 := Aside0.mk A60
          clear A60
          by_cases c7 : t102 = true
          · subst c7
            have H1 : (lex_run.l0 k1 a0 a1 (wrap64 (x5_1 + 1))) = some r := by rw [if_pos rfl] at H; exact H
            clear H
            have H := H1
            clear H1
            have H' := Aside0.mk H
            clear H
            have p5 : 0 ≤ (x5_1 : Int) := of_decide_eq_true (by first | (with_reducible assumption) | assumption)
            have q5 : x5_1 < (a0.size : Int) := of_decide_eq_true (by first | (with_reducible assumption) | assumption)
            have hx5 := bt_at a0 x5_1
            replace p5 := eq_true p5
            replace q5 := eq_true q5
            go_wp2_with (first | (go_at_call 36; (with_reducible refine (lex_is.calls (bt a0 x5_1) a1 true _ A6.out).mono ?_); rintro e w' ⟨rfl, ⟨nd, rfl⟩⟩))
            go_roundg k1
            case measure => have := HK1.out; omega
            case rel => exact ⟨(wrap64 (x5_1 + 1)), (by first | rfl | (simp; done) | (simp [*]; done)), H', ⟨by have := HK1.out; omega⟩, by repeat (first | exact Drawn0.refl _ | apply Drawn0.step)⟩
          · replace c7 := Bool.eq_false_iff.mpr c7
            subst c7
            have H1 : (some x5_1) = some r := by rw [if_neg (show ¬ (false = true) by decide)] at H; exact H
            clear H
            have H := H1
            clear H1
            obtain rfl := Option.some.inj H
            have p5 : 0 ≤ (x5_1 : Int) := of_decide_eq_true (by first | (with_reducible assumption) | assumption)
            have q5 : x5_1 < (a0.size : Int) := of_decide_eq_true (by first | (with_reducible assumption) | assumption)
            have hx5 := bt_at a0 x5_1
            replace p5 := eq_true p5
            replace q5 := eq_true q5
            go_wp2_with (first | (go_at_call 36; (with_reducible refine (lex_is.calls (bt a0 x5_1) a1 false _ A6.out).mono ?_); rintro e w' ⟨rfl, ⟨nd, rfl⟩⟩))
            go_ret
            exact ⟨by first | rfl | (simp; done) | (simp [*]; done), by repeat (first | exact Drawn0.refl _ | apply Drawn0.step)⟩
        · rw [if_neg c4] at H
          exact absurd H (by simp)
      · rw [if_neg c3] at H
        have c3b0 : decide (x5_1 < (a0.size : Int)) = false := decide_eq_false c3
        clear c3
        obtain rfl := Option.some.inj H
        go_wp2
        go_ret
        exact ⟨by first | rfl | (simp; done) | (simp [*]; done), by repeat (first | exact Drawn0.refl _ | apply Drawn0.step)⟩

/-! ### stringslite_HasPrefix: function 47 -/
def stringslite_HasPrefix.f (a0 : ByteArray) (a1 : ByteArray) : Option (Bool) := if (a0.size : Int) ≥ (a1.size : Int) then (if 0 ≤ (a1.size : Int) then (if (a1.size : Int) ≤ (a0.size : Int) then (some ((a0.extract 0 ((a1.size : Int) : Int).toNat).toList == a1.toList)) else (none)) else (none)) else (some false)
set_option maxHeartbeats 8000000 in
set_option maxRecDepth 100000 in
theorem stringslite_HasPrefix.calls (a0 : ByteArray) (a1 : ByteArray) (r : Bool) (w : World) (h : stringslite_HasPrefix.f a0 a1 = some r) :
    Calls Tryd.prog 47 #[.string a0, .string a1] w fun e w' => e = .returned (.bool r) ∧ Drawn0 w w' := by
  have H : (if (a0.size : Int) ≥ (a1.size : Int) then (if 0 ≤ (a1.size : Int) then (if (a1.size : Int) ≤ (a0.size : Int) then (some ((a0.extract 0 ((a1.size : Int) : Int).toNat).toList == a1.toList)) else (none)) else (none)) else (some false)) = some r := h
  clear h
  by_cases c3 : (a0.size : Int) ≥ (a1.size : Int)
  · rw [if_pos c3] at H
    have c3b0 : decide ((a1.size : Int) ≤ (a0.size : Int)) = true := decide_eq_true c3
    have c3b1 : decide (a1.size ≤ a0.size) = true := decide_eq_true (Int.ofNat_le.mp c3)
    clear c3
    by_cases c4 : 0 ≤ (a1.size : Int)
    · rw [if_pos c4] at H
      have c4b0 := eq_true c4
      (try (have c4n := c4; simp [size_lit] at c4n))
      (try (have c4m := eq_false (Nat.not_lt.2 c4); simp only [ByteArray.size_append, size_lit, List.length_cons, List.length_nil, Nat.reduceAdd, Nat.zero_add] at c4m))
      have c4b1 : decide (0 ≤ (a1.size : Int)) = true := decide_eq_true c4
      clear c4
      by_cases c5 : (a1.size : Int) ≤ (a0.size : Int)
      · rw [if_pos c5] at H
        have c5b0 := eq_true c5
        (try (have c5n := c5; simp [size_lit] at c5n))
        (try (have c5m := eq_false (Nat.not_lt.2 c5); simp only [ByteArray.size_append, size_lit, List.length_cons, List.length_nil, Nat.reduceAdd, Nat.zero_add] at c5m))
        have c5b1 : decide ((a1.size : Int) ≤ (a0.size : Int)) = true := decide_eq_true c5
        clear c5
        obtain rfl := Option.some.inj H
        go_enter Tryd.func47, Tryd.ntmps47
        go_wp2
        go_ret
        exact ⟨by first | rfl | (simp; done) | (simp [*]; done), by repeat (first | exact Drawn0.refl _ | apply Drawn0.step)⟩
      · rw [if_neg c5] at H
        exact absurd H (by simp)
    · rw [if_neg c4] at H
      exact absurd H (by simp)
  · rw [if_neg c3] at H
    have c3b0 : decide ((a1.size : Int) ≤ (a0.size : Int)) = false := decide_eq_false c3
    have c3b1 : decide (a1.size ≤ a0.size) = false := decide_eq_false (fun h => c3 (Int.ofNat_le.mpr h))
    clear c3
    obtain rfl := Option.some.inj H
    go_enter Tryd.func47, Tryd.ntmps47
    go_wp2
    go_ret
    exact ⟨by first | rfl | (simp; done) | (simp [*]; done), by repeat (first | exact Drawn0.refl _ | apply Drawn0.step)⟩

/-! ### strings_HasPrefix: function 34 -/
def strings_HasPrefix.f (a0 : ByteArray) (a1 : ByteArray) : Option (Bool) := (stringslite_HasPrefix.f a0 a1).bind fun t103 => (some t103)
set_option maxHeartbeats 8000000 in
set_option maxRecDepth 100000 in
theorem strings_HasPrefix.calls (a0 : ByteArray) (a1 : ByteArray) (r : Bool) (w : World) (h : strings_HasPrefix.f a0 a1 = some r) :
    Calls Tryd.prog 34 #[.string a0, .string a1] w fun e w' => e = .returned (.bool r) ∧ Drawn0 w w' := by
  have H : ((stringslite_HasPrefix.f a0 a1).bind fun t103 => (some t103)) = some r := h
  clear h
  replace H := Option.bind_eq_some_iff.mp H
  obtain ⟨t103, A30, H⟩ := H
  replace H : (some t103) = some r := H
  have A3 := Aside0.mk A30
  clear A30
  obtain rfl := Option.some.inj H
  go_enter Tryd.func34, Tryd.ntmps34
  go_wp2_with (first | ((with_reducible refine gate_callee (f := 47) rfl ?_); refine goesL_ (some 7) rfl rfl Tryd.func47 (by kernel_rfl) rfl #[.string a0, .string a1] rfl (by (try simp only [List.map_toArray, List.map_cons, List.map_nil]); first | done | rfl | (simp only [List.length_drop, List.length_take]; rfl)) ?_; (with_reducible refine (stringslite_HasPrefix.calls a0 a1 t103 _ A3.out).mono ?_); rintro e w' ⟨rfl, ⟨nd, rfl⟩⟩; refine ⟨_, rfl, ?_⟩))
  go_ret
  exact ⟨by first | rfl | (simp; done) | (simp [*]; done), by repeat (first | exact Drawn0.refl _ | apply Drawn0.step)⟩

/-! ### lex_space: function 25 -/
def lex_space.l0 : Nat → ByteArray → Int → Option (Int)
  | 0, _, _ => none
  | k + 1, x0, x3 => (lex_run.f k x0 (⟨#[9, 10, 13, 32]⟩ : ByteArray)).bind fun t104 => (if 0 ≤ t104 then (if t104 ≤ (x0.size : Int) then ((strings_HasPrefix.f (x0.extract (t104 : Int).toNat x0.size) (⟨#[45, 45]⟩ : ByteArray)).bind fun t105 => (if t105 = true then ((strings_IndexByte.f (x0.extract (t104 : Int).toNat x0.size) 10).bind fun t106 => (if t106 < 0 then (some x3) else (if 0 ≤ t106 then (if t106 ≤ ((x0.extract (t104 : Int).toNat x0.size).size : Int) then (lex_space.l0 k ((x0.extract (t104 : Int).toNat x0.size).extract (t106 : Int).toNat (x0.extract (t104 : Int).toNat x0.size).size) x3) else (none)) else (none)))) else (some (wrap64 (x3 - ((x0.extract (t104 : Int).toNat x0.size).size : Int)))))) else (none)) else (none))
def lex_space.f (k : Nat) (a0 : ByteArray) : Option (Int) := lex_space.l0 k a0 (a0.size : Int)
theorem lex_space.mono_l : ∀ k, (∀ y0 y1, LeO (lex_space.l0 k y0 y1) (lex_space.l0 (k + 1) y0 y1))
  | 0 => fun _ _ r h => by simp [lex_space.l0] at h
  | k + 1 => by
    have ih0 := lex_space.mono_l k
    · intro y0 y1
      unfold lex_space.l0
      repeat' first
      | (with_reducible exact ih0 _ _)
      | (with_reducible exact lex_run.mono _ _ _)
      | (with_reducible exact LeO.refl _)
      | (with_reducible exact LeO.none _)
      | (with_reducible refine LeO.ite ?_ ?_)
      | (with_reducible refine LeO.bind ?_ (fun _ => ?_))
      | exact ih0 _ _
      | exact lex_run.mono _ _ _
      | exact LeO.none _
      | refine LeO.ite ?_ ?_
      | refine LeO.bind ?_ (fun _ => ?_)
theorem lex_space.mono : ∀ a0 k, LeO (lex_space.f k a0) (lex_space.f (k + 1) a0) := by
  intro a0 k
  have ih0 := lex_space.mono_l k
  unfold lex_space.f
  repeat' first
      | (with_reducible exact ih0 _ _)
      | (with_reducible exact lex_run.mono _ _ _)
      | (with_reducible exact LeO.refl _)
      | (with_reducible exact LeO.none _)
      | (with_reducible refine LeO.ite ?_ ?_)
      | (with_reducible refine LeO.bind ?_ (fun _ => ?_))
      | exact ih0 _ _
      | exact lex_run.mono _ _ _
      | exact LeO.none _
      | refine LeO.ite ?_ ?_
      | refine LeO.bind ?_ (fun _ => ?_)
set_option maxHeartbeats 8000000 in
set_option maxRecDepth 100000 in
theorem lex_space.calls (k : Nat) (a0 : ByteArray) (r : Int) (w : World) (h : lex_space.f k a0 = some r) :
    Calls Tryd.prog 25 #[.string a0] w fun e w' => e = .returned (.int .i64 r) ∧ Drawn0 w w' := by
  have H : (lex_space.l0 k a0 (a0.size : Int)) = some r := h
  clear h
  have H' := Aside0.mk H
  clear H
  go_enter Tryd.func25, Tryd.ntmps25
  go_wp2
  go_loopg [0] k (fun kq v0 w' => ∃ (x0_1 : ByteArray), v0 = .string x0_1 ∧ Aside0 (lex_space.l0 kq x0_1 (a0.size : Int) = some r) ∧ Aside0 (kq ≤ k) ∧ Drawn0 w w')
  case atStart => exact ⟨(a0), (by first | rfl | (simp; done) | (simp [*]; done)), H', ⟨Nat.le_refl _⟩, by repeat (first | exact Drawn0.refl _ | apply Drawn0.step)⟩
  case round =>
    clear H'
    obtain ⟨x0_1, rfl, HA, HK1, ⟨m1, rfl⟩⟩ := hrel
    cases gk with
    | zero => exact absurd HA.out (by simp [lex_space.l0])
    | succ k1 =>
      have H := HA.out
      clear HA
      simp only [lex_space.l0] at H
      replace H := Option.bind_eq_some_iff.mp H
      obtain ⟨t104, A20, H⟩ := H
      replace H : (if 0 ≤ t104 then (if t104 ≤ (x0_1.size : Int) then ((strings_HasPrefix.f (x0_1.extract (t104 : Int).toNat x0_1.size) (⟨#[45, 45]⟩ : ByteArray)).bind fun t105 => (if t105 = true then ((strings_IndexByte.f (x0_1.extract (t104 : Int).toNat x0_1.size) 10).bind fun t106 => (if t106 < 0 then (some (a0.size : Int)) else (if 0 ≤ t106 then (if t106 ≤ ((x0_1.extract (t104 : Int).toNat x0_1.size).size : Int) then (lex_space.l0 k1 ((x0_1.extract (t104 : Int).toNat x0_1.size).extract (t106 : Int).toNat (x0_1.extract (t104 : Int).toNat x0_1.size).size) (a0.size : Int)) else (none)) else (none)))) else (some (wrap64 ((a0.size : Int) - ((x0_1.extract (t104 : Int).toNat x0_1.size).size : Int)))))) else (none)) else (none)) = some r := H
      have A2 := Aside0.mk A20
      clear A20
      by_cases c3 : 0 ≤ t104
      · rw [if_pos c3] at H
        have c3b0 := eq_true c3
        (try (have c3n := c3; simp [size_lit] at c3n))
        (try (have c3m := eq_false (Nat.not_lt.2 c3); simp only [ByteArray.size_append, size_lit, List.length_cons, List.length_nil, Nat.reduceAdd, Nat.zero_add] at c3m))
        have c3b1 : decide (0 ≤ t104) = true := decide_eq_true c3
        clear c3
        by_cases c4 : t104 ≤ (x0_1.size : Int)
        · rw [if_pos c4] at H
          have c4b0 := eq_true c4
          (try (have c4n := c4; simp [size_lit] at c4n))
          (try (have c4m := eq_false (Nat.not_lt.2 c4); simp only [ByteArray.size_append, size_lit, List.length_cons, List.length_nil, Nat.reduceAdd, Nat.zero_add] at c4m))
          have c4b1 : decide (t104 ≤ (x0_1.size : Int)) = true := decide_eq_true c4
          clear c4
          replace H := Option.bind_eq_some_iff.mp H
          obtain ⟨t105, A50, H⟩ := H
          replace H : (if t105 = true then ((strings_IndexByte.f (x0_1.extract (t104 : Int).toNat x0_1.size) 10).bind fun t106 => (if t106 < 0 then (some (a0.size : Int)) else (if 0 ≤ t106 then (if t106 ≤ ((x0_1.extract (t104 : Int).toNat x0_1.size).size : Int) then (lex_space.l0 k1 ((x0_1.extract (t104 : Int).toNat x0_1.size).extract (t106 : Int).toNat (x0_1.extract (t104 : Int).toNat x0_1.size).size) (a0.size : Int)) else (none)) else (none)))) else (some (wrap64 ((a0.size : Int) - ((x0_1.extract (t104 : Int).toNat x0_1.size).size : Int))))) = some r := H
          have A5 := Aside0.mk A50
          clear A50
          by_cases c6 : t105 = true
          · subst c6
            have H1 : ((strings_IndexByte.f (x0_1.extract (t104 : Int).toNat x0_1.size) 10).bind fun t106 => (if t106 < 0 then (some (a0.size : Int)) else (if 0 ≤ t106 then (if t106 ≤ ((x0_1.extract (t104 : Int).toNat x0_1.size).size : Int) then (lex_space.l0 k1 ((x0_1.extract (t104 : Int).toNat x0_1.size).extract (t106 : Int).toNat (x0_1.extract (t104 : Int).toNat x0_1.size).size) (a0.size : Int)) else (none)) else (none)))) = some r := by rw [if_pos rfl] at H; exact H
            clear H
            have H := H1
            clear H1
            replace H := Option.bind_eq_some_iff.mp H
            obtain ⟨t106, A70, H⟩ := H
            replace H : (if t106 < 0 then (some (a0.size : Int)) else (if 0 ≤ t106 then (if t106 ≤ ((x0_1.extract (t104 : Int).toNat x0_1.size).size : Int) then (lex_space.l0 k1 ((x0_1.extract (t104 : Int).toNat x0_1.size).extract (t106 : Int).toNat (x0_1.extract (t104 : Int).toNat x0_1.size).size) (a0.size : Int)) else (none)) else (none))) = some r := H
            have A7 := Aside0.mk A70
            clear A70
            by_cases c8 : t106 < 0
            · rw [if_pos c8] at H
              have c8b0 : decide (t106 < 0) = true := decide_eq_true c8
              clear c8
              obtain rfl := Option.some.inj H
              go_wp2_with (first | ((with_reducible refine gate_callee (f := 33) rfl ?_); refine goesL_ (some 9) rfl rfl Tryd.func33 (by kernel_rfl) rfl #[.string x0_1, .string (⟨#[9, 10, 13, 32]⟩ : ByteArray)] rfl (by (try simp only [List.map_toArray, List.map_cons, List.map_nil]); first | done | rfl | (simp only [List.length_drop, List.length_take]; rfl)) ?_; (with_reducible refine (lex_run.calls k1 x0_1 (⟨#[9, 10, 13, 32]⟩ : ByteArray) t104 _ A2.out).mono ?_); rintro e w' ⟨rfl, ⟨nd, rfl⟩⟩; refine ⟨_, rfl, ?_⟩) | ((with_reducible refine gate_callee (f := 34) rfl ?_); refine goesL_ (some 12) rfl rfl Tryd.func34 (by kernel_rfl) rfl #[.string (x0_1.extract (t104 : Int).toNat x0_1.size), .string (⟨#[45, 45]⟩ : ByteArray)] rfl (by (try simp only [List.map_toArray, List.map_cons, List.map_nil]); first | done | rfl | (simp only [List.length_drop, List.length_take]; rfl)) ?_; (with_reducible refine (strings_HasPrefix.calls (x0_1.extract (t104 : Int).toNat x0_1.size) (⟨#[45, 45]⟩ : ByteArray) true _ A5.out).mono ?_); rintro e w' ⟨rfl, ⟨nd, rfl⟩⟩; refine ⟨_, rfl, ?_⟩) | ((with_reducible refine gate_callee (f := 35) rfl ?_); refine goesL_ (some 19) rfl rfl Tryd.func35 (by kernel_rfl) rfl #[.string (x0_1.extract (t104 : Int).toNat x0_1.size), .int .u8 10] rfl (by (try simp only [List.map_toArray, List.map_cons, List.map_nil]); first | done | rfl | (simp only [List.length_drop, List.length_take]; rfl)) ?_; (with_reducible refine (strings_IndexByte.calls (x0_1.extract (t104 : Int).toNat x0_1.size) 10 t106 _ A7.out).mono ?_); rintro e w' ⟨rfl, ⟨nd, rfl⟩⟩; refine ⟨_, rfl, ?_⟩))
              go_ret
              exact ⟨by first | rfl | (simp; done) | (simp [*]; done), by repeat (first | exact Drawn0.refl _ | apply Drawn0.step)⟩
            · rw [if_neg c8] at H
              have c8b0 : decide (t106 < 0) = false := decide_eq_false c8
              clear c8
              by_cases c9 : 0 ≤ t106
              · rw [if_pos c9] at H
                have c9b0 := eq_true c9
                (try (have c9n := c9; simp [size_lit] at c9n))
                (try (have c9m := eq_false (Nat.not_lt.2 c9); simp only [ByteArray.size_append, size_lit, List.length_cons, List.length_nil, Nat.reduceAdd, Nat.zero_add] at c9m))
                have c9b1 : decide (0 ≤ t106) = true := decide_eq_true c9
                clear c9
                by_cases c10 : t106 ≤ ((x0_1.extract (t104 : Int).toNat x0_1.size).size : Int)
                · rw [if_pos c10] at H
                  have c10b0 := eq_true c10
                  (try (have c10n := c10; simp [size_lit] at c10n))
                  (try (have c10m := eq_false (Nat.not_lt.2 c10); simp only [ByteArray.size_append, size_lit, List.length_cons, List.length_nil, Nat.reduceAdd, Nat.zero_add] at c10m))
                  have c10b1 : decide (t106 ≤ ((x0_1.extract (t104 : Int).toNat x0_1.size).size : Int)) = true := decide_eq_true c10
                  clear c10
                  have H' := Aside0.mk H
                  clear H
                  go_wp2_with (first | ((with_reducible refine gate_callee (f := 33) rfl ?_); refine goesL_ (some 9) rfl rfl Tryd.func33 (by kernel_rfl) rfl #[.string x0_1, .string (⟨#[9, 10, 13, 32]⟩ : ByteArray)] rfl (by (try simp only [List.map_toArray, List.map_cons, List.map_nil]); first | done | rfl | (simp only [List.length_drop, List.length_take]; rfl)) ?_; (with_reducible refine (lex_run.calls k1 x0_1 (⟨#[9, 10, 13, 32]⟩ : ByteArray) t104 _ A2.out).mono ?_); rintro e w' ⟨rfl, ⟨nd, rfl⟩⟩; refine ⟨_, rfl, ?_⟩) | ((with_reducible refine gate_callee (f := 34) rfl ?_); refine goesL_ (some 12) rfl rfl Tryd.func34 (by kernel_rfl) rfl #[.string (x0_1.extract (t104 : Int).toNat x0_1.size), .string (⟨#[45, 45]⟩ : ByteArray)] rfl (by (try simp only [List.map_toArray, List.map_cons, List.map_nil]); first | done | rfl | (simp only [List.length_drop, List.length_take]; rfl)) ?_; (with_reducible refine (strings_HasPrefix.calls (x0_1.extract (t104 : Int).toNat x0_1.size) (⟨#[45, 45]⟩ : ByteArray) true _ A5.out).mono ?_); rintro e w' ⟨rfl, ⟨nd, rfl⟩⟩; refine ⟨_, rfl, ?_⟩) | ((with_reducible refine gate_callee (f := 35) rfl ?_); refine goesL_ (some 19) rfl rfl Tryd.func35 (by kernel_rfl) rfl #[.string (x0_1.extract (t104 : Int).toNat x0_1.size), .int .u8 10] rfl (by (try simp only [List.map_toArray, List.map_cons, List.map_nil]); first | done | rfl | (simp only [List.length_drop, List.length_take]; rfl)) ?_; (with_reducible refine (strings_IndexByte.calls (x0_1.extract (t104 : Int).toNat x0_1.size) 10 t106 _ A7.out).mono ?_); rintro e w' ⟨rfl, ⟨nd, rfl⟩⟩; refine ⟨_, rfl, ?_⟩))
                  go_roundg k1
                  case measure => have := HK1.out; omega
                  case rel => exact ⟨((x0_1.extract (t104 : Int).toNat x0_1.size).extract (t106 : Int).toNat (x0_1.extract (t104 : Int).toNat x0_1.size).size), (by first | rfl | (simp; done) | (simp [*]; done)), H', ⟨by have := HK1.out; omega⟩, by repeat (first | exact Drawn0.refl _ | apply Drawn0.step)⟩
                · rw [if_neg c10] at H
                  exact absurd H (by simp)
              · rw [if_neg c9] at H
                exact absurd H (by simp)
          · replace c6 := Bool.eq_false_iff.mpr c6
            subst c6
            have H1 : (some (wrap64 ((a0.size : Int) - ((x0_1.extract (t104 : Int).toNat x0_1.size).size : Int)))) = some r := by rw [if_neg (show ¬ (false = true) by decide)] at H; exact H
            clear H
            have H := H1
            clear H1
            obtain rfl := Option.some.inj H
            go_wp2_with (first | ((with_reducible refine gate_callee (f := 33) rfl ?_); refine goesL_ (some 9) rfl rfl Tryd.func33 (by kernel_rfl) rfl #[.string x0_1, .string (⟨#[9, 10, 13, 32]⟩ : ByteArray)] rfl (by (try simp only [List.map_toArray, List.map_cons, List.map_nil]); first | done | rfl | (simp only [List.length_drop, List.length_take]; rfl)) ?_; (with_reducible refine (lex_run.calls k1 x0_1 (⟨#[9, 10, 13, 32]⟩ : ByteArray) t104 _ A2.out).mono ?_); rintro e w' ⟨rfl, ⟨nd, rfl⟩⟩; refine ⟨_, rfl, ?_⟩) | ((with_reducible refine gate_callee (f := 34) rfl ?_); refine goesL_ (some 12) rfl rfl Tryd.func34 (by kernel_rfl) rfl #[.string (x0_1.extract (t104 : Int).toNat x0_1.size), .string (⟨#[45, 45]⟩ : ByteArray)] rfl (by (try simp only [List.map_toArray, List.map_cons, List.map_nil]); first | done | rfl | (simp only [List.length_drop, List.length_take]; rfl)) ?_; (with_reducible refine (strings_HasPrefix.calls (x0_1.extract (t104 : Int).toNat x0_1.size) (⟨#[45, 45]⟩ : ByteArray) false _ A5.out).mono ?_); rintro e w' ⟨rfl, ⟨nd, rfl⟩⟩; refine ⟨_, rfl, ?_⟩))
            go_ret
            exact ⟨by first | rfl | (simp; done) | (simp [*]; done), by repeat (first | exact Drawn0.refl _ | apply Drawn0.step)⟩
        · rw [if_neg c4] at H
          exact absurd H (by simp)
      · rw [if_neg c3] at H
        exact absurd H (by simp)

/-! ### lex_small: function 37, by hand -/
/-- a letter made small -/
def lex_small.low (c : UInt8) : UInt8 := if 65 ≤ c.toNat ∧ c.toNat ≤ 90 then c + 32 else c
def lex_small.f (a0 : ByteArray) : Option (ByteArray) := if a0.size ≤ 140737488351232 then some ⟨(a0.data.toList.map lex_small.low).toArray⟩ else none
/-- the copy after k rounds -/
structure lex_small.At (w : World) (s : ByteArray) (k : Nat) (wr : World) : Prop where
  below : Below w.heap.size w wr
  cells : ∀ j, j < s.size → wr.cell? ⟨w.heap.size, j, none⟩ = some (.int .u8 ((if j < k then lex_small.low (s.data.toList.getD j 0) else s.data.toList.getD j 0).toNat : Int))
  free : ∀ j, j < s.size → wr.frozen? ⟨w.heap.size, j, none⟩ = false
theorem lex_small.start (w : World) (s : ByteArray) (e : TypeId) : lex_small.At w s 0 (Lib.bytesWorld w e s) where
  below := ⟨rfl, rfl, rfl, by rw [Lib.bytesWorld_size]; omega, fun k hk => Lib.bytesWorld_at_old w e s k hk⟩
  cells := fun j hj => by rw [if_neg (by omega)]; exact Lib.bytesWorld_cell w e s j hj
  free := fun j hj => by
    have h := Lib.bytesWorld_at_new w e s
    have hl : s.size ≤ (Lib.bytesCells w e s).size := by
      have e1 : s.data.size = s.size := rfl
      unfold Lib.bytesCells
      rw [Array.size_append, Array.size_map, e1]
      omega
    simp only [World.frozen?, h]
    simp
    omega
theorem lex_small.keep {w wr : World} {s : ByteArray} {j : Nat} (h : lex_small.At w s j wr) (hl : lex_small.low (s.data.toList.getD j 0) = s.data.toList.getD j 0) : lex_small.At w s (j + 1) wr where
  below := h.below
  cells := fun i hi => by
    rw [h.cells i hi]
    by_cases c : i < j
    · rw [if_pos c, if_pos (by omega)]
    · rw [if_neg c]
      by_cases d : i = j
      · subst d; rw [if_pos (by omega), hl]
      · rw [if_neg (by omega)]
  free := h.free
theorem lex_small.turn {w wr : World} {s : ByteArray} {j : Nat} (h : lex_small.At w s j wr) (hj : j < s.size) (x : Int) (hl : x = ((lex_small.low (s.data.toList.getD j 0)).toNat : Int)) : lex_small.At w s (j + 1) (wr.setCell ⟨w.heap.size, j, none⟩ (.int .u8 x)) where
  below := h.below.setCell (Nat.le_refl _) _
  cells := fun i hi => by
    by_cases d : i = j
    · subst d
      rw [if_pos (by omega), World.cell?_setCell_same _ _ _ (h.cells i hi), hl]
    · rw [World.cell?_setCell_other _ _ _ _ (by intro e; exact d (by injection e with _ e _; exact e.symm)), h.cells i hi]
      by_cases c : i < j
      · rw [if_pos c, if_pos (by omega)]
      · rw [if_neg c, if_neg (by omega)]
  free := fun i hi => by rw [World.frozen?_setCell]; exact h.free i hi
set_option maxHeartbeats 8000000 in
set_option maxRecDepth 100000 in
theorem lex_small.calls (a0 : ByteArray) (r : ByteArray) (w : World) (h : lex_small.f a0 = some r) :
    Calls Tryd.prog 37 #[.string a0] w fun e w' => e = .returned (.string r) ∧ Below w.heap.size w w' := by
  unfold lex_small.f at h
  by_cases hs : a0.size ≤ 140737488351232
  · rw [if_pos hs] at h
    obtain rfl := Option.some.inj h
    clear h
    have hcv := fun W : World => Lib.run_convert_string_bytes (P := Tryd.prog) W 9 54 5 a0 Tryd.underlying9 Tryd.underlying54 Tryd.underlying5
    have HS0 := Aside0.mk (lex_small.start w a0 5)
    go_enter Tryd.func37, Tryd.ntmps37
    go_wp2
    go_loopg [10] a0.size (fun kq v10 wr => ∃ (j : Nat), v10 = .int .i64 (j : Int) ∧ Aside0 (j + kq = a0.size) ∧ Aside0 (lex_small.At w a0 j wr))
    case atStart => exact ⟨0, rfl, ⟨by omega⟩, HS0⟩
    case round =>
      clear HS0 hcv
      obtain ⟨j, rfl, HJ, HS⟩ := hrel
      cases gk with
      | zero =>
        have hj : j = a0.size := by have := HJ.out; omega
        subst hj
        have c1 : decide ((a0.size : Int) < (a0.size : Int)) = false := decide_eq_false (by omega)
        have hcb := run_convert_bytes_arg (P := Tryd.prog) wr 54 5 Tryd.underlying54 Tryd.underlying5 w.heap.size 0 a0.size (grownCap w a0.size 0 5) ((a0.data.toList.map lex_small.low).map fun c => (c.toNat : Int)) (by rw [List.length_map, List.length_map]; exact Array.length_toList) (by
          intro i hi
          rw [Nat.zero_add, HS.out.cells i hi, if_pos hi]
          have hl : i < a0.data.toList.length := by rw [Array.length_toList]; exact hi
          simp [List.getD, hl, hi]) 9 Tryd.underlying9
        rw [show strOfNums ((a0.data.toList.map lex_small.low).map fun c => (c.toNat : Int)) = ⟨(a0.data.toList.map lex_small.low).toArray⟩ from by simp [strOfNums, Function.comp_def]] at hcb
        go_wp2
        go_ret
        exact ⟨rfl, HS.out.below⟩
      | succ k1 =>
        have hlt : j < a0.size := by have := HJ.out; omega
        have c1 : decide ((j : Int) < (a0.size : Int)) = true := decide_eq_true (by omega)
        have hc := HS.out.cells j hlt
        rw [if_neg (by omega)] at hc
        have hf := HS.out.free j hlt
        obtain ⟨c, hcc⟩ : ∃ c, c = a0.data.toList.getD j 0 := ⟨_, rfl⟩
        rw [← hcc] at hc
        obtain ⟨v, hv⟩ : ∃ v : Int, v = (c.toNat : Int) := ⟨_, rfl⟩
        rw [← hv] at hc
        have v0 : 0 ≤ v := by omega
        have v1 : v ≤ 255 := by have := UInt8.toNat_lt c; omega
        by_cases g1 : 65 ≤ v
        · have b1 : decide (65 ≤ v) = true := decide_eq_true g1
          by_cases g2 : v ≤ 90
          · have b2 : decide (v ≤ 90) = true := decide_eq_true g2
            have HT := Aside0.mk (lex_small.turn HS.out hlt (v + 32) (by
              rw [← hcc]; unfold lex_small.low; rw [if_pos (by omega), UInt8.toNat_add]; simp; omega))
            have HV := Aside0.mk hv
            have HCC := Aside0.mk hcc
            clear hv hcc
            go_wp2
            go_roundg k1
            case measure => have := HJ.out; omega
            case rel => exact ⟨j + 1, (by first | rfl | (simp; done)), ⟨by have := HJ.out; omega⟩, HT⟩
          · have b2 : decide (v ≤ 90) = false := decide_eq_false g2
            have HT := Aside0.mk (lex_small.keep HS.out (by rw [← hcc]; unfold lex_small.low; rw [if_neg (by omega)]))
            have HV := Aside0.mk hv
            have HCC := Aside0.mk hcc
            clear hv hcc
            go_wp2
            go_roundg k1
            case measure => have := HJ.out; omega
            case rel => exact ⟨j + 1, (by first | rfl | (simp; done)), ⟨by have := HJ.out; omega⟩, HT⟩
        · have b1 : decide (65 ≤ v) = false := decide_eq_false g1
          have HT := Aside0.mk (lex_small.keep HS.out (by rw [← hcc]; unfold lex_small.low; rw [if_neg (by omega)]))
          have HV := Aside0.mk hv
          have HCC := Aside0.mk hcc
          clear hv hcc
          go_wp2
          go_roundg k1
          case measure => have := HJ.out; omega
          case rel => exact ⟨j + 1, (by first | rfl | (simp; done)), ⟨by have := HJ.out; omega⟩, HT⟩
  · rw [if_neg hs] at h; exact absurd h (by simp)


/-! ### lex_number: function 38 -/
def lex_number.f (k : Nat) (a0 : ByteArray) : Option (Int) := (lex_run.f k a0 (⟨#[48, 49, 50, 51, 52, 53, 54, 55, 56, 57]⟩ : ByteArray)).bind fun t107 => (if (wrap64 (t107 + 1)) < (a0.size : Int) then (if 0 ≤ t107 then (if t107 < (a0.size : Int) then (if (bt a0 t107) = 46 then (if 0 ≤ (wrap64 (t107 + 1)) then ((lex_is.f (bt a0 (wrap64 (t107 + 1))) (⟨#[48, 49, 50, 51, 52, 53, 54, 55, 56, 57]⟩ : ByteArray)).bind fun t108 => (if t108 = true then (if (wrap64 (t107 + 1)) ≤ (a0.size : Int) then ((lex_run.f k (a0.extract ((wrap64 (t107 + 1)) : Int).toNat a0.size) (⟨#[48, 49, 50, 51, 52, 53, 54, 55, 56, 57]⟩ : ByteArray)).bind fun t109 => (some (wrap64 (t107 + (wrap64 (1 + t109)))))) else (none)) else (some t107))) else (none)) else (some t107)) else (none)) else (none)) else (some t107))
theorem lex_number.mono : ∀ a0 k, LeO (lex_number.f k a0) (lex_number.f (k + 1) a0) := by
  intro a0 k
  unfold lex_number.f
  repeat' first
      | (with_reducible exact lex_run.mono _ _ _)
      | (with_reducible exact LeO.refl _)
      | (with_reducible exact LeO.none _)
      | (with_reducible refine LeO.ite ?_ ?_)
      | (with_reducible refine LeO.bind ?_ (fun _ => ?_))
      | exact lex_run.mono _ _ _
      | exact LeO.none _
      | refine LeO.ite ?_ ?_
      | refine LeO.bind ?_ (fun _ => ?_)
set_option maxHeartbeats 8000000 in
set_option maxRecDepth 100000 in
theorem lex_number.calls (k : Nat) (a0 : ByteArray) (r : Int) (w : World) (h : lex_number.f k a0 = some r) :
    Calls Tryd.prog 38 #[.string a0] w fun e w' => e = .returned (.int .i64 r) ∧ Drawn0 w w' := by
  have H : ((lex_run.f k a0 (⟨#[48, 49, 50, 51, 52, 53, 54, 55, 56, 57]⟩ : ByteArray)).bind fun t107 => (if (wrap64 (t107 + 1)) < (a0.size : Int) then (if 0 ≤ t107 then (if t107 < (a0.size : Int) then (if (bt a0 t107) = 46 then (if 0 ≤ (wrap64 (t107 + 1)) then ((lex_is.f (bt a0 (wrap64 (t107 + 1))) (⟨#[48, 49, 50, 51, 52, 53, 54, 55, 56, 57]⟩ : ByteArray)).bind fun t108 => (if t108 = true then (if (wrap64 (t107 + 1)) ≤ (a0.size : Int) then ((lex_run.f k (a0.extract ((wrap64 (t107 + 1)) : Int).toNat a0.size) (⟨#[48, 49, 50, 51, 52, 53, 54, 55, 56, 57]⟩ : ByteArray)).bind fun t109 => (some (wrap64 (t107 + (wrap64 (1 + t109)))))) else (none)) else (some t107))) else (none)) else (some t107)) else (none)) else (none)) else (some t107))) = some r := h
  clear h
  replace H := Option.bind_eq_some_iff.mp H
  obtain ⟨t107, A20, H⟩ := H
  replace H : (if (wrap64 (t107 + 1)) < (a0.size : Int) then (if 0 ≤ t107 then (if t107 < (a0.size : Int) then (if (bt a0 t107) = 46 then (if 0 ≤ (wrap64 (t107 + 1)) then ((lex_is.f (bt a0 (wrap64 (t107 + 1))) (⟨#[48, 49, 50, 51, 52, 53, 54, 55, 56, 57]⟩ : ByteArray)).bind fun t108 => (if t108 = true then (if (wrap64 (t107 + 1)) ≤ (a0.size : Int) then ((lex_run.f k (a0.extract ((wrap64 (t107 + 1)) : Int).toNat a0.size) (⟨#[48, 49, 50, 51, 52, 53, 54, 55, 56, 57]⟩ : ByteArray)).bind fun t109 => (some (wrap64 (t107 + (wrap64 (1 + t109)))))) else (none)) else (some t107))) else (none)) else (some t107)) else (none)) else (none)) else (some t107)) = some r := H
  have A2 := Aside0.mk A20
  clear A20
  by_cases c3 : (wrap64 (t107 + 1)) < (a0.size : Int)
  · rw [if_pos c3] at H
    have c3b0 : decide ((wrap64 (t107 + 1)) < (a0.size : Int)) = true := decide_eq_true c3
    clear c3
    by_cases c4 : 0 ≤ t107
    · rw [if_pos c4] at H
      have c4b0 : decide (0 ≤ t107) = true := decide_eq_true c4
      clear c4
      by_cases c5 : t107 < (a0.size : Int)
      · rw [if_pos c5] at H
        have c5b0 : decide (t107 < (a0.size : Int)) = true := decide_eq_true c5
        clear c5
        by_cases c7 : (bt a0 t107) = 46
        · rw [if_pos c7] at H
          have c7b0 : ((bt a0 t107) == 46) = true := beq_iff_eq.mpr c7
          have c7b1 : ((bt a0 t107) != 46) = false := bne_eq_false_iff_eq.mpr c7
          clear c7
          obtain ⟨ji8, hji8⟩ : ∃ j_ : Int, (wrap64 (t107 + 1)) = j_ := ⟨_, rfl⟩
          replace H : (if 0 ≤ (ji8) then ((lex_is.f (bt a0 (ji8)) (⟨#[48, 49, 50, 51, 52, 53, 54, 55, 56, 57]⟩ : ByteArray)).bind fun t108 => (if t108 = true then (if (ji8) ≤ (a0.size : Int) then ((lex_run.f k (a0.extract ((ji8) : Int).toNat a0.size) (⟨#[48, 49, 50, 51, 52, 53, 54, 55, 56, 57]⟩ : ByteArray)).bind fun t109 => (some (wrap64 (t107 + (wrap64 (1 + t109)))))) else (none)) else (some t107))) else (none)) = some r := by first | (rw [hji8] at H; exact H) | (simp only [hji8] at H ⊢; exact H)
          (try rw [hji8] at c3b0)
          (try rw [hji8] at A2)
          have hji8w : (IntKind.i64.wrap (t107 + 1)) = ji8 := (i64_w _).trans hji8
          by_cases c9 : 0 ≤ (ji8)
          · rw [if_pos c9] at H
            have c9b0 : decide (0 ≤ (ji8)) = true := decide_eq_true c9
            clear c9
            replace H := Option.bind_eq_some_iff.mp H
            obtain ⟨t108, A110, H⟩ := H
            replace H : (if t108 = true then (if (ji8) ≤ (a0.size : Int) then ((lex_run.f k (a0.extract ((ji8) : Int).toNat a0.size) (⟨#[48, 49, 50, 51, 52, 53, 54, 55, 56, 57]⟩ : ByteArray)).bind fun t109 => (some (wrap64 (t107 + (wrap64 (1 + t109)))))) else (none)) else (some t107)) = some r := H
            have A11 := Aside0.mk A110
            clear A110
            by_cases c12 : t108 = true
            · subst c12
              have H1 : (if (ji8) ≤ (a0.size : Int) then ((lex_run.f k (a0.extract ((ji8) : Int).toNat a0.size) (⟨#[48, 49, 50, 51, 52, 53, 54, 55, 56, 57]⟩ : ByteArray)).bind fun t109 => (some (wrap64 (t107 + (wrap64 (1 + t109)))))) else (none)) = some r := by rw [if_pos rfl] at H; exact H
              clear H
              have H := H1
              clear H1
              have c13b0 := eq_true (of_decide_eq_true (by first | (with_reducible assumption) | assumption) : 0 ≤ (ji8))
              by_cases c14 : (ji8) ≤ (a0.size : Int)
              · rw [if_pos c14] at H
                have c14b0 := eq_true c14
                (try (have c14n := c14; simp [size_lit] at c14n))
                (try (have c14m := eq_false (Nat.not_lt.2 c14); simp only [ByteArray.size_append, size_lit, List.length_cons, List.length_nil, Nat.reduceAdd, Nat.zero_add] at c14m))
                have c14b1 : decide ((ji8) ≤ (a0.size : Int)) = true := decide_eq_true c14
                clear c14
                replace H := Option.bind_eq_some_iff.mp H
                obtain ⟨t109, A150, H⟩ := H
                replace H : (some (wrap64 (t107 + (wrap64 (1 + t109))))) = some r := H
                have A15 := Aside0.mk A150
                clear A150
                obtain rfl := Option.some.inj H
                go_enter Tryd.func38, Tryd.ntmps38
                go_wp2_with (first | ((with_reducible refine gate_callee (f := 33) rfl ?_); refine goesL_ (some 5) rfl rfl Tryd.func33 (by kernel_rfl) rfl #[.string a0, .string (⟨#[48, 49, 50, 51, 52, 53, 54, 55, 56, 57]⟩ : ByteArray)] rfl (by (try simp only [List.map_toArray, List.map_cons, List.map_nil]); first | done | rfl | (simp only [List.length_drop, List.length_take]; rfl)) ?_; (with_reducible refine (lex_run.calls k a0 (⟨#[48, 49, 50, 51, 52, 53, 54, 55, 56, 57]⟩ : ByteArray) t107 _ A2.out).mono ?_); rintro e w' ⟨rfl, ⟨nd, rfl⟩⟩; refine ⟨_, rfl, ?_⟩; have p6 : 0 ≤ (t107 : Int) := of_decide_eq_true (by first | (with_reducible assumption) | assumption); have q6 : t107 < (a0.size : Int) := of_decide_eq_true (by first | (with_reducible assumption) | assumption); have hx6 := bt_at a0 t107; replace p6 := eq_true p6; replace q6 := eq_true q6; have p10 : 0 ≤ ((ji8) : Int) := of_decide_eq_true (by first | (with_reducible assumption) | assumption); have q10 : (ji8) < (a0.size : Int) := of_decide_eq_true (by first | (with_reducible assumption) | assumption); have hx10 := bt_at a0 (ji8); replace p10 := eq_true p10; replace q10 := eq_true q10) | (go_at_call 36; (with_reducible refine (lex_is.calls (bt a0 (ji8)) (⟨#[48, 49, 50, 51, 52, 53, 54, 55, 56, 57]⟩ : ByteArray) true _ A11.out).mono ?_); rintro e w' ⟨rfl, ⟨nd, rfl⟩⟩) | ((with_reducible refine gate_callee (f := 33) rfl ?_); refine goesL_ (some 29) rfl rfl Tryd.func33 (by kernel_rfl) rfl #[.string (a0.extract ((ji8) : Int).toNat a0.size), .string (⟨#[48, 49, 50, 51, 52, 53, 54, 55, 56, 57]⟩ : ByteArray)] rfl (by (try simp only [List.map_toArray, List.map_cons, List.map_nil]); first | done | (simp only [hji8]; rfl) | rfl | (simp only [List.length_drop, List.length_take]; rfl)) ?_; (with_reducible refine (lex_run.calls k (a0.extract ((ji8) : Int).toNat a0.size) (⟨#[48, 49, 50, 51, 52, 53, 54, 55, 56, 57]⟩ : ByteArray) t109 _ A15.out).mono ?_); rintro e w' ⟨rfl, ⟨nd, rfl⟩⟩; refine ⟨_, rfl, ?_⟩))
                go_ret
                exact ⟨by first | rfl | (simp; done) | (simp only [← hji8] <;> (first | rfl | simp)) | (simp [*]; done), by repeat (first | exact Drawn0.refl _ | apply Drawn0.step)⟩
              · rw [if_neg c14] at H
                exact absurd H (by simp)
            · replace c12 := Bool.eq_false_iff.mpr c12
              subst c12
              have H1 : (some t107) = some r := by rw [if_neg (show ¬ (false = true) by decide)] at H; exact H
              clear H
              have H := H1
              clear H1
              obtain rfl := Option.some.inj H
              go_enter Tryd.func38, Tryd.ntmps38
              go_wp2_with (first | ((with_reducible refine gate_callee (f := 33) rfl ?_); refine goesL_ (some 5) rfl rfl Tryd.func33 (by kernel_rfl) rfl #[.string a0, .string (⟨#[48, 49, 50, 51, 52, 53, 54, 55, 56, 57]⟩ : ByteArray)] rfl (by (try simp only [List.map_toArray, List.map_cons, List.map_nil]); first | done | rfl | (simp only [List.length_drop, List.length_take]; rfl)) ?_; (with_reducible refine (lex_run.calls k a0 (⟨#[48, 49, 50, 51, 52, 53, 54, 55, 56, 57]⟩ : ByteArray) t107 _ A2.out).mono ?_); rintro e w' ⟨rfl, ⟨nd, rfl⟩⟩; refine ⟨_, rfl, ?_⟩; have p6 : 0 ≤ (t107 : Int) := of_decide_eq_true (by first | (with_reducible assumption) | assumption); have q6 : t107 < (a0.size : Int) := of_decide_eq_true (by first | (with_reducible assumption) | assumption); have hx6 := bt_at a0 t107; replace p6 := eq_true p6; replace q6 := eq_true q6; have p10 : 0 ≤ ((ji8) : Int) := of_decide_eq_true (by first | (with_reducible assumption) | assumption); have q10 : (ji8) < (a0.size : Int) := of_decide_eq_true (by first | (with_reducible assumption) | assumption); have hx10 := bt_at a0 (ji8); replace p10 := eq_true p10; replace q10 := eq_true q10) | (go_at_call 36; (with_reducible refine (lex_is.calls (bt a0 (ji8)) (⟨#[48, 49, 50, 51, 52, 53, 54, 55, 56, 57]⟩ : ByteArray) false _ A11.out).mono ?_); rintro e w' ⟨rfl, ⟨nd, rfl⟩⟩))
              go_ret
              exact ⟨by first | rfl | (simp; done) | (simp only [← hji8] <;> (first | rfl | simp)) | (simp [*]; done), by repeat (first | exact Drawn0.refl _ | apply Drawn0.step)⟩
          · rw [if_neg c9] at H
            exact absurd H (by simp)
        · rw [if_neg c7] at H
          have c7b0 : ((bt a0 t107) == 46) = false := beq_eq_false_iff_ne.mpr c7
          have c7b1 : ((bt a0 t107) != 46) = true := bne_iff_ne.mpr c7
          obtain rfl := Option.some.inj H
          go_enter Tryd.func38, Tryd.ntmps38
          go_wp2_with (first | ((with_reducible refine gate_callee (f := 33) rfl ?_); refine goesL_ (some 5) rfl rfl Tryd.func33 (by kernel_rfl) rfl #[.string a0, .string (⟨#[48, 49, 50, 51, 52, 53, 54, 55, 56, 57]⟩ : ByteArray)] rfl (by (try simp only [List.map_toArray, List.map_cons, List.map_nil]); first | done | rfl | (simp only [List.length_drop, List.length_take]; rfl)) ?_; (with_reducible refine (lex_run.calls k a0 (⟨#[48, 49, 50, 51, 52, 53, 54, 55, 56, 57]⟩ : ByteArray) t107 _ A2.out).mono ?_); rintro e w' ⟨rfl, ⟨nd, rfl⟩⟩; refine ⟨_, rfl, ?_⟩; have p6 : 0 ≤ (t107 : Int) := of_decide_eq_true (by first | (with_reducible assumption) | assumption); have q6 : t107 < (a0.size : Int) := of_decide_eq_true (by first | (with_reducible assumption) | assumption); have hx6 := bt_at a0 t107; replace p6 := eq_true p6; replace q6 := eq_true q6))
          go_ret
          exact ⟨by first | rfl | (simp; done) | (simp [*]; done), by repeat (first | exact Drawn0.refl _ | apply Drawn0.step)⟩
      · rw [if_neg c5] at H
        exact absurd H (by simp)
    · rw [if_neg c4] at H
      exact absurd H (by simp)
  · rw [if_neg c3] at H
    have c3b0 : decide ((wrap64 (t107 + 1)) < (a0.size : Int)) = false := decide_eq_false c3
    clear c3
    obtain rfl := Option.some.inj H
    go_enter Tryd.func38, Tryd.ntmps38
    go_wp2_with (first | ((with_reducible refine gate_callee (f := 33) rfl ?_); refine goesL_ (some 5) rfl rfl Tryd.func33 (by kernel_rfl) rfl #[.string a0, .string (⟨#[48, 49, 50, 51, 52, 53, 54, 55, 56, 57]⟩ : ByteArray)] rfl (by (try simp only [List.map_toArray, List.map_cons, List.map_nil]); first | done | rfl | (simp only [List.length_drop, List.length_take]; rfl)) ?_; (with_reducible refine (lex_run.calls k a0 (⟨#[48, 49, 50, 51, 52, 53, 54, 55, 56, 57]⟩ : ByteArray) t107 _ A2.out).mono ?_); rintro e w' ⟨rfl, ⟨nd, rfl⟩⟩; refine ⟨_, rfl, ?_⟩))
    go_ret
    exact ⟨by first | rfl | (simp; done) | (simp [*]; done), by repeat (first | exact Drawn0.refl _ | apply Drawn0.step)⟩

/-! ### lex_quoted: function 39, by hand -/
/-- the byte at a place -/
def lex_quoted.ch (s : ByteArray) (i : Nat) : UInt8 := s.data.toList.getD i 0
theorem lex_quoted.bt_ch (s : ByteArray) (i : Nat) (h : i < s.size) : bt s (i : Int) = ((lex_quoted.ch s i).toNat : Int) := by
  have hl : i < s.data.toList.length := by rw [Array.length_toList]; exact h
  unfold bt lex_quoted.ch
  rw [dif_pos (show ((i : Int)).toNat < s.size from h), List.getD_eq_getElem?_getD, List.getElem?_eq_getElem hl]
  rfl
def lex_quoted.l0 : Nat → ByteArray → Nat → List UInt8 → ByteArray × Int
  | 0, _, _, _ => (⟨#[]⟩, 0)
  | k + 1, s, i, acc => if i < s.size then (if lex_quoted.ch s i = 39 then (if i + 1 < s.size ∧ lex_quoted.ch s (i + 1) = 39 then lex_quoted.l0 k s (i + 2) (acc ++ [39]) else (⟨acc.toArray⟩, ((i + 1 : Nat) : Int))) else lex_quoted.l0 k s (i + 1) (acc ++ [lex_quoted.ch s i])) else (⟨#[]⟩, 0)
def lex_quoted.f (a0 : ByteArray) : Option (ByteArray × Int) := if a0.size ≤ 140737488351232 then some (lex_quoted.l0 a0.size a0 1 []) else none
set_option maxHeartbeats 8000000 in
set_option maxRecDepth 100000 in
theorem lex_quoted.calls (a0 : ByteArray) (r : ByteArray × Int) (w : World) (h : lex_quoted.f a0 = some r) :
    Calls Tryd.prog 39 #[.string a0] w fun e w' => e = .returned (.tuple #[.string r.1, .int .i64 r.2]) ∧ Below w.heap.size w w' := by
  unfold lex_quoted.f at h
  by_cases hs : a0.size ≤ 140737488351232
  · rw [if_pos hs] at h
    have hr := Option.some.inj h
    clear h
    have HR := Aside0.mk hr
    clear hr
    have HB := Aside0.mk (Lib.fresh_isBuilder 56 5 w)
    go_enter Tryd.func39, Tryd.ntmps39
    go_wp2
    go_loopg [5] a0.size (fun kq v5 wr => ∃ (i : Nat) (acc : List UInt8), v5 = .int .i64 (i : Int) ∧ Aside0 (a0.size ≤ i + kq ∧ acc.length ≤ i ∧ i ≤ a0.size + 2) ∧ Aside0 (lex_quoted.l0 kq a0 i acc = r) ∧ Aside0 (Builder.Holds w.heap.size w.heap.size (Lib.byteCells acc) wr) ∧ Aside0 (Below w.heap.size w wr))
    case atStart => exact ⟨1, [], rfl, ⟨by omega, by simp, by omega⟩, HR, HB, ⟨by first | exact Below.alloc_self _ _ | exact Below.alloc (Below.refl _ _) (Nat.le_refl _) _ | exact (Below.refl _ _).alloc (Nat.le_refl _) _⟩⟩
    case round =>
      clear HR HB
      obtain ⟨i, acc, rfl, HK, HL, HH, HW⟩ := hrel
      by_cases c : i < a0.size
      · have c1 : decide ((i : Int) < (a0.size : Int)) = true := decide_eq_true (by omega)
        obtain ⟨k1, rfl⟩ : ∃ k1, gk = k1 + 1 := ⟨gk - 1, by have := HK.out; omega⟩
        have hL := HL.out
        clear HL
        unfold lex_quoted.l0 at hL
        rw [if_pos c] at hL
        have p5 : 0 ≤ (i : Int) := by omega
        have q5 : (i : Int) < (a0.size : Int) := by omega
        have hv := lex_quoted.bt_ch a0 i c
        obtain ⟨v, hvv⟩ : ∃ v : Int, v = bt a0 (i : Int) := ⟨_, rfl⟩
        rw [← hvv] at hv
        have hx5 : ∀ h : i < a0.size, ((a0[i]'h).toNat : Int) = v := fun h => by rw [hvv]; exact bt_at a0 (i : Int) h
        have wi : IntKind.i64.wrap ((i : Int) + 1) = (i : Int) + 1 := by rw [IntKind.wrap_i64]; omega
        have wi2 : IntKind.i64.wrap ((i : Int) + 1 + 1) = (i : Int) + 1 + 1 := by rw [IntKind.wrap_i64]; omega
        by_cases d : lex_quoted.ch a0 i = 39
        · rw [if_pos d] at hL
          have d1 : decide (v = 39) = true := decide_eq_true (by rw [hv, d]; rfl)
          have d2 : (v == 39) = true := by rw [hv, d]; rfl
          by_cases e : i + 1 < a0.size
          · have e1 : decide ((i : Int) + 1 = (a0.size : Int)) = false := decide_eq_false (by omega)
            have e2 : ((i : Int) + 1 == (a0.size : Int)) = false := by simp; omega
            have p6 : 0 ≤ (i : Int) + 1 := by omega
            have q6 : (i : Int) + 1 < (a0.size : Int) := by omega
            have hu := lex_quoted.bt_ch a0 (i + 1) e
            obtain ⟨u, huu⟩ : ∃ u : Int, u = bt a0 ((i + 1 : Nat) : Int) := ⟨_, rfl⟩
            rw [← huu] at hu
            have hx6 : ∀ h : i + 1 < a0.size, ((a0[i + 1]'h).toNat : Int) = u := fun h => by rw [huu]; exact bt_at a0 ((i + 1 : Nat) : Int) h
            by_cases g : lex_quoted.ch a0 (i + 1) = 39
            · rw [if_pos ⟨e, g⟩] at hL
              have g1 : decide (u = 39) = true := decide_eq_true (by rw [hu, g]; rfl)
              have g2 : (u == 39) = true := by rw [hu, g]; rfl
              have g3 : (u != 39) = false := by rw [hu, g]; rfl
              have eu : u = 39 := by rw [hu, g]; rfl
              have HL := Aside0.mk hL
              have HV := Aside0.mk hv
              have HU := Aside0.mk hu
              clear hL hv hu hvv huu d g
              replace p5 := eq_true p5
              replace q5 := eq_true q5
              replace p6 := eq_true p6
              replace q6 := eq_true q6
              go_wp2_with (first | (go_at_call 49; (with_reducible refine (Builder.writeByte w.heap.size w.heap.size (Lib.byteCells acc) 39 _ HH.out (by have := HK.out; simp [Lib.byteCells]; omega) (by have := HW.out.size; omega)).mono ?_); rintro e' w' ⟨rfl, hh, hb⟩))
              go_roundg k1
              case measure => omega
              case rel => exact ⟨i + 2, acc ++ [39], (by first | rfl | (simp; done)), ⟨by have := HK.out; simp; omega⟩, HL, ⟨by simpa [Lib.byteCells, eu] using hh⟩, ⟨HW.out.trans hb⟩⟩
            · rw [if_neg (fun z => g z.2)] at hL
              have g1 : decide (u = 39) = false := decide_eq_false (by rw [hu]; intro z; exact g (UInt8.toNat_inj.1 (by simpa using (by omega : (lex_quoted.ch a0 (i + 1)).toNat = 39))))
              have g2 : (u == 39) = false := beq_eq_false_iff_ne.2 (of_decide_eq_false g1)
              have g3 : (u != 39) = true := bne_iff_ne.2 (of_decide_eq_false g1)
              subst hL
              have HV := Aside0.mk hv
              have HU := Aside0.mk hu
              clear hv hu hvv huu d g
              replace p5 := eq_true p5
              replace q5 := eq_true q5
              replace p6 := eq_true p6
              replace q6 := eq_true q6
              go_wp2_with (first | (go_at_call 30; (with_reducible refine (Tryd.Builder_String_any w.heap.size w.heap.size acc _ HH.out (by have := HW.out.size; omega)).mono ?_); rintro e' w' ⟨rfl, hb⟩))
              go_ret2
              exact ⟨rfl, HW.out.trans hb⟩
          · have e1 : decide ((i : Int) + 1 = (a0.size : Int)) = true := decide_eq_true (by omega)
            have e2 : ((i : Int) + 1 == (a0.size : Int)) = true := by simp; omega
            rw [if_neg (fun z => e z.1)] at hL
            subst hL
            have HV := Aside0.mk hv
            clear hv hvv d
            replace p5 := eq_true p5
            replace q5 := eq_true q5
            go_wp2_with (first | (go_at_call 30; (with_reducible refine (Tryd.Builder_String_any w.heap.size w.heap.size acc _ HH.out (by have := HW.out.size; omega)).mono ?_); rintro e' w' ⟨rfl, hb⟩))
            go_ret2
            exact ⟨rfl, HW.out.trans hb⟩
        · rw [if_neg d] at hL
          have d1 : decide (v = 39) = false := decide_eq_false (by rw [hv]; intro z; exact d (UInt8.toNat_inj.1 (by simpa using (by omega : (lex_quoted.ch a0 i).toNat = 39))))
          have d2 : (v == 39) = false := beq_eq_false_iff_ne.2 (of_decide_eq_false d1)
          have HL := Aside0.mk hL
          have HV := Aside0.mk hv
          clear hL hv hvv d
          replace p5 := eq_true p5
          replace q5 := eq_true q5
          go_wp2_with (first | (go_at_call 49; (with_reducible refine (Builder.writeByte w.heap.size w.heap.size (Lib.byteCells acc) v _ HH.out (by have := HK.out; simp [Lib.byteCells]; omega) (by have := HW.out.size; omega)).mono ?_); rintro e' w' ⟨rfl, hh, hb⟩))
          go_roundg k1
          case measure => omega
          case rel => exact ⟨i + 1, acc ++ [lex_quoted.ch a0 i], (by first | rfl | (simp; done)), ⟨by have := HK.out; simp; omega⟩, HL, ⟨by simpa [Lib.byteCells, HV.out] using hh⟩, ⟨HW.out.trans hb⟩⟩
      · have c1 : decide ((i : Int) < (a0.size : Int)) = false := decide_eq_false (by omega)
        have hL := HL.out
        have hr : r = (⟨#[]⟩, 0) := by
          rw [← hL]
          cases gk with
          | zero => rfl
          | succ k1 => unfold lex_quoted.l0; rw [if_neg c]
        subst hr
        clear hL HL
        go_wp2
        go_ret2
        exact ⟨rfl, HW.out⟩
  · rw [if_neg hs] at h; exact absurd h (by simp)


/-! ### lex_one: function 26, by hand -/
/-- one of the four signs of two letters -/
def lex_one.tw (t : ByteArray) : Bool := (t == (⟨#[60, 61]⟩ : ByteArray)) || (t == (⟨#[62, 61]⟩ : ByteArray)) || (t == (⟨#[60, 62]⟩ : ByteArray)) || (t == (⟨#[124, 124]⟩ : ByteArray))
def lex_one.f (k : Nat) (a0 : ByteArray) : Option (Int × ByteArray × Int × Int) :=
  if 0 < a0.size ∧ a0.size ≤ 140737488351232 then (lex_is.f (bt a0 0) (⟨#[97, 98, 99, 100, 101, 102, 103, 104, 105, 106, 107, 108, 109, 110, 111, 112, 113, 114, 115, 116, 117, 118, 119, 120, 121, 122, 65, 66, 67, 68, 69, 70, 71, 72, 73, 74, 75, 76, 77, 78, 79, 80, 81, 82, 83, 84, 85, 86, 87, 88, 89, 90, 95]⟩ : ByteArray)).bind fun t1 =>
    (if t1 = true then (lex_run.f k a0 (⟨#[97, 98, 99, 100, 101, 102, 103, 104, 105, 106, 107, 108, 109, 110, 111, 112, 113, 114, 115, 116, 117, 118, 119, 120, 121, 122, 65, 66, 67, 68, 69, 70, 71, 72, 73, 74, 75, 76, 77, 78, 79, 80, 81, 82, 83, 84, 85, 86, 87, 88, 89, 90, 95, 48, 49, 50, 51, 52, 53, 54, 55, 56, 57]⟩ : ByteArray)).bind fun n => (if n ≤ 32 then (if 0 ≤ n ∧ n ≤ (a0.size : Int) then (lex_small.f (a0.extract 0 n.toNat)).bind fun t => some (1, t, 0, n) else none) else some (0, ⟨#[]⟩, 0, 0))
    else (lex_is.f (bt a0 0) (⟨#[48, 49, 50, 51, 52, 53, 54, 55, 56, 57]⟩ : ByteArray)).bind fun t2 =>
    (if t2 = true then (lex_number.f k a0).bind fun n => (if 0 ≤ n ∧ n ≤ (a0.size : Int) then (if n ≤ 40 then (if n = (a0.size : Int) then some (2, a0.extract 0 n.toNat, 0, n) else (lex_is.f (bt a0 n) (⟨#[97, 98, 99, 100, 101, 102, 103, 104, 105, 106, 107, 108, 109, 110, 111, 112, 113, 114, 115, 116, 117, 118, 119, 120, 121, 122, 65, 66, 67, 68, 69, 70, 71, 72, 73, 74, 75, 76, 77, 78, 79, 80, 81, 82, 83, 84, 85, 86, 87, 88, 89, 90, 95]⟩ : ByteArray)).bind fun t3 => (if t3 = true then some (0, ⟨#[]⟩, 0, 0) else some (2, a0.extract 0 n.toNat, 0, n))) else some (0, ⟨#[]⟩, 0, 0)) else none)
    else (if bt a0 0 = 39 then (lex_quoted.f a0).bind fun q => (if 0 < q.2 then (if q.1.size ≤ 256 then some (3, q.1, 0, q.2) else some (0, ⟨#[]⟩, 0, 0)) else some (0, ⟨#[]⟩, 0, 0))
    else (if 1 < a0.size ∧ lex_one.tw (a0.extract 0 2) = true then some (4, a0.extract 0 2, 0, 2)
    else (lex_is.f (bt a0 0) (⟨#[40, 41, 44, 46, 59, 42, 43, 45, 47, 37, 61, 60, 62]⟩ : ByteArray)).bind fun t4 => (if t4 = true then some (4, a0.extract 0 1, 0, 1) else some (0, ⟨#[]⟩, 0, 0)))))) else none
theorem lex_one.mono : ∀ a0 k, LeO (lex_one.f k a0) (lex_one.f (k + 1) a0) := by
  intro a0 k
  unfold lex_one.f
  repeat' first
      | (with_reducible exact lex_run.mono _ _ _)
      | (with_reducible exact lex_number.mono _ _)
      | (with_reducible exact LeO.refl _)
      | (with_reducible exact LeO.none _)
      | (with_reducible refine LeO.ite ?_ ?_)
      | (with_reducible refine LeO.bind ?_ (fun _ => ?_))
/-- the world with a map's new entries -/
def lex_one.put (W : World) (r : Nat) (es : Array MapEntry) (c : Nat) : World := { W with heap := W.heap.setIfInBounds r (.map es c) }
theorem lex_one.put_run (W : World) (r c : Nat) (es : Array MapEntry) (s : ByteArray) (hb : W.heap[r]? = some (.map es c)) (hf : Instr.findNow .string (.string s) es.toList 0 = some none) :
    (Instr.mapUpdate 68 (.map (some r)) (.string s) (.bool true)).run Tryd.prog W = .ok () (lex_one.put W r (es.push { key := .string s, val := .bool true, born := c }) (c + 1)) := by
  have hc : (Instr.checkKey false 10000 9 (.string s)).run Tryd.prog W = .ok () W := MapKept.run_checkKey (k := .string s) Tryd.underlying9 (by simp [MapKept.IsKey]) false 9999
  simp [Instr.mapUpdate, run_underlying Tryd.underlying68, MapKept.run_getObj_map hb, hc, MapKept.run_findKey Tryd.underlying9 hf, MapKept.run_setObj_map _ hb, Result.andThen, lex_one.put]
theorem lex_one.put_at {W : World} {r : Nat} {o : Obj} (es : Array MapEntry) (c : Nat) (hb : W.heap[r]? = some o) : (lex_one.put W r es c).heap[r]? = some (.map es c) ∧ (∀ j, j ≠ r → (lex_one.put W r es c).heap[j]? = W.heap[j]?) ∧ (lex_one.put W r es c).heap.size = W.heap.size := by
  have h := MapKept.heap_set (o' := .map es c) hb
  exact ⟨h.1, h.2, by simp [lex_one.put]⟩
def lex_one.en (s : ByteArray) (c : Nat) : MapEntry := { key := .string s, val := .bool true, born := c }
def lex_one.all : Array MapEntry := #[lex_one.en ⟨#[60, 61]⟩ 0, lex_one.en ⟨#[62, 61]⟩ 1, lex_one.en ⟨#[60, 62]⟩ 2, lex_one.en ⟨#[124, 124]⟩ 3]
theorem lex_one.look (W : World) (r : Nat) (t : ByteArray) (hb : W.heap[r]? = some (.map lex_one.all 4)) : (Instr.lookup 68 (.map (some r)) (.string t) false).run Tryd.prog W = .ok (.bool (lex_one.tw t)) W := by
  have hc : ∀ b, (Instr.checkKey b 10000 9 (.string t)).run Tryd.prog W = .ok () W := fun b => MapKept.run_checkKey (k := .string t) Tryd.underlying9 (by simp [MapKept.IsKey]) b 9999
  unfold lex_one.tw
  cases h1 : (t == (⟨#[60, 61]⟩ : ByteArray)) <;> cases h2 : (t == (⟨#[62, 61]⟩ : ByteArray)) <;> cases h3 : (t == (⟨#[60, 62]⟩ : ByteArray)) <;> cases h4 : (t == (⟨#[124, 124]⟩ : ByteArray)) <;>
  · have hf : ∃ x, Instr.findNow .string (.string t) lex_one.all.toList 0 = some x := by
      simp [lex_one.all, lex_one.en, Instr.findNow, Instr.sameNow, h1, h2, h3, h4]
    obtain ⟨x, hf⟩ := hf
    have hf2 := hf
    simp [lex_one.all, lex_one.en, Instr.findNow, Instr.sameNow, h1, h2, h3, h4] at hf2
    subst hf2
    simp [Instr.lookup, run_underlying Tryd.underlying68, MapKept.run_getObj_map hb, hc, MapKept.run_findKey Tryd.underlying9 hf, Tryd.zeroValue4, Result.andThen]
/-- the world behind the literal -/
structure lex_one.Laid (w W : World) : Prop where
  below : Below w.heap.size w W
  map : W.heap[w.heap.size + 1]? = some (.map lex_one.all 4)
  tok : W.heap[w.heap.size]? = some (.cells #[.int .i64 0, .string ⟨#[]⟩, .int .i64 0] 25 (0, 0))
  size : W.heap.size = w.heap.size + 2
theorem lex_one.lays (w : World) : ∃ W1 W2 W3 W4 : World, lex_one.Laid w W4 ∧
    (Instr.mapUpdate 68 (.map (some (w.heap.size + 1))) (.string ⟨#[60, 61]⟩) (.bool true)).run Tryd.prog ((w.alloc (.cells #[.int .i64 0, .string ⟨#[]⟩, .int .i64 0] 25)).alloc (.map #[] 0)) = .ok () W1 ∧
    (Instr.mapUpdate 68 (.map (some (w.heap.size + 1))) (.string ⟨#[62, 61]⟩) (.bool true)).run Tryd.prog W1 = .ok () W2 ∧
    (Instr.mapUpdate 68 (.map (some (w.heap.size + 1))) (.string ⟨#[60, 62]⟩) (.bool true)).run Tryd.prog W2 = .ok () W3 ∧
    (Instr.mapUpdate 68 (.map (some (w.heap.size + 1))) (.string ⟨#[124, 124]⟩) (.bool true)).run Tryd.prog W3 = .ok () W4 := by
  obtain ⟨W0, e0⟩ : ∃ W0, W0 = (w.alloc (.cells #[.int .i64 0, .string ⟨#[]⟩, .int .i64 0] 25)).alloc (.map #[] 0) := ⟨_, rfl⟩
  have s0 : W0.heap.size = w.heap.size + 2 := by rw [e0]; simp
  have g1 := MapKept.heap_alloc w (.cells #[.int .i64 0, .string ⟨#[]⟩, .int .i64 0] 25)
  have g2 := MapKept.heap_alloc (w.alloc (.cells #[.int .i64 0, .string ⟨#[]⟩, .int .i64 0] 25)) (.map #[] 0)
  have g3 : (w.alloc (.cells #[.int .i64 0, .string ⟨#[]⟩, .int .i64 0] 25)).heap.size = w.heap.size + 1 := by simp
  have m0 : W0.heap[w.heap.size + 1]? = some (.map #[] 0) := by rw [e0, ← g3]; exact g2.1
  have t0 : W0.heap[w.heap.size]? = some (.cells #[.int .i64 0, .string ⟨#[]⟩, .int .i64 0] 25 (0, 0)) := by rw [e0, g2.2 _ (by omega)]; exact g1.1
  have b0 : Below w.heap.size w W0 := by rw [e0]; exact ((Below.refl _ w).alloc (Nat.le_refl _) _).alloc (by simp) _
  rw [← e0]
  have r1 := lex_one.put_run W0 _ 0 #[] ⟨#[60, 61]⟩ m0 rfl
  obtain ⟨W1, e1⟩ : ∃ W1, W1 = lex_one.put W0 (w.heap.size + 1) #[lex_one.en ⟨#[60, 61]⟩ 0] 1 := ⟨_, rfl⟩
  have a1 := lex_one.put_at #[lex_one.en ⟨#[60, 61]⟩ 0] 1 m0
  have r2 := lex_one.put_run _ _ 1 #[lex_one.en ⟨#[60, 61]⟩ 0] ⟨#[62, 61]⟩ a1.1 rfl
  have a2 := lex_one.put_at #[lex_one.en ⟨#[60, 61]⟩ 0, lex_one.en ⟨#[62, 61]⟩ 1] 2 a1.1
  have r3 := lex_one.put_run _ _ 2 #[lex_one.en ⟨#[60, 61]⟩ 0, lex_one.en ⟨#[62, 61]⟩ 1] ⟨#[60, 62]⟩ a2.1 rfl
  have a3 := lex_one.put_at #[lex_one.en ⟨#[60, 61]⟩ 0, lex_one.en ⟨#[62, 61]⟩ 1, lex_one.en ⟨#[60, 62]⟩ 2] 3 a2.1
  have r4 := lex_one.put_run _ _ 3 #[lex_one.en ⟨#[60, 61]⟩ 0, lex_one.en ⟨#[62, 61]⟩ 1, lex_one.en ⟨#[60, 62]⟩ 2] ⟨#[124, 124]⟩ a3.1 rfl
  have a4 := lex_one.put_at lex_one.all 4 a3.1
  have bel : ∀ {V : World} (es : Array MapEntry) (c : Nat), Below w.heap.size w V → V.heap.size = w.heap.size + 2 → Below w.heap.size w (lex_one.put V (w.heap.size + 1) es c) := fun es c h hs =>
    ⟨h.os, h.tape, h.output, by have := h.size; simp only [lex_one.put, Array.size_setIfInBounds]; exact this, fun j hj => by
      rw [← h.block j hj]
      simp only [lex_one.put]
      rw [Array.getElem?_setIfInBounds_ne (by omega)]⟩
  have s1 := a1.2.2.trans s0
  have s2 := a2.2.2.trans s1
  have s3 := a3.2.2.trans s2
  have s4 := a4.2.2.trans s3
  refine ⟨_, _, _, _, ⟨bel _ _ (bel _ _ (bel _ _ (bel _ _ b0 s0) s1) s2) s3, a4.1, ?_, s4⟩, r1, r2, r3, r4⟩
  rw [a4.2.1 _ (by omega), a3.2.1 _ (by omega), a2.2.1 _ (by omega), a1.2.1 _ (by omega)]
  exact t0
theorem lex_one.tok3 {w : World} {b : Nat} {u v x : Value} (h : w.heap[b]? = some (.cells #[u, v, x] 25 (0, 0))) (p q r : Value) : (((w.setCell ⟨b, 0, none⟩ p).setCell ⟨b, 1, none⟩ q).setCell ⟨b, 2, none⟩ r).heap[b]? = some (.cells #[p, q, r] 25 (0, 0)) :=
  blk_put (blk_put (blk_put h 0 p rfl) 1 q rfl) 2 r rfl
theorem lex_one.keep {w W V V' : World} (h : lex_one.Laid w W) (hV : V.heap = W.heap) (hb : Below V.heap.size V V') : V'.heap[w.heap.size]? = some (.cells #[.int .i64 0, .string ⟨#[]⟩, .int .i64 0] 25 (0, 0)) := by
  rw [hb.block _ (by rw [hV, h.size]; omega), hV]
  exact h.tok
theorem lex_one.facts {W : World} {b : Nat} (h : W.heap[b]? = some (.cells #[.int .i64 0, .string ⟨#[]⟩, .int .i64 0] 25 (0, 0))) :
    W.cell? ⟨b, 0, none⟩ = some (.int .i64 0) ∧ W.cell? ⟨b, 1, none⟩ = some (.string ⟨#[]⟩) ∧ W.cell? ⟨b, 2, none⟩ = some (.int .i64 0) ∧ W.frozen? ⟨b, 0, none⟩ = false ∧ W.frozen? ⟨b, 1, none⟩ = false ∧ W.frozen? ⟨b, 2, none⟩ = false :=
  ⟨by rw [Lib.cell_of_heap h]; rfl, by rw [Lib.cell_of_heap h]; rfl, by rw [Lib.cell_of_heap h]; rfl, Lib.frozen_of_heap h 0, Lib.frozen_of_heap h 1, Lib.frozen_of_heap h 2⟩
set_option maxHeartbeats 8000000 in
set_option maxRecDepth 100000 in
theorem lex_one.calls (k : Nat) (a0 : ByteArray) (r1 : Int) (r2 : ByteArray) (r3 r4 : Int) (w : World) (h : lex_one.f k a0 = some (r1, r2, r3, r4)) :
    Calls Tryd.prog 26 #[.string a0] w fun e w' => e = .returned (.tuple #[.agg #[.int .i64 r1, .string r2, .int .i64 r3], .int .i64 r4]) ∧ Below w.heap.size w w' := by
  unfold lex_one.f at h
  by_cases hs : 0 < a0.size ∧ a0.size ≤ 140737488351232
  · rw [if_pos hs] at h
    replace h := Option.bind_eq_some_iff.mp h
    obtain ⟨t1, B1, h⟩ := h
    have A1 := Aside0.mk B1
    clear B1
    obtain ⟨W1, W2, W3, W4, HL0, P1, P2, P3, P4⟩ := lex_one.lays w
    have HL := Aside0.mk HL0
    have HB := Aside0.mk HL0.below
    have c0 : W4.cell? ⟨w.heap.size, 0, none⟩ = some (.int .i64 0) := by rw [Lib.cell_of_heap HL0.tok]; rfl
    have c1 : W4.cell? ⟨w.heap.size, 1, none⟩ = some (.string ⟨#[]⟩) := by rw [Lib.cell_of_heap HL0.tok]; rfl
    have c2 : W4.cell? ⟨w.heap.size, 2, none⟩ = some (.int .i64 0) := by rw [Lib.cell_of_heap HL0.tok]; rfl
    have f0 : W4.frozen? ⟨w.heap.size, 0, none⟩ = false := Lib.frozen_of_heap HL0.tok 0
    have f1 : W4.frozen? ⟨w.heap.size, 1, none⟩ = false := Lib.frozen_of_heap HL0.tok 1
    have f2 : W4.frozen? ⟨w.heap.size, 2, none⟩ = false := Lib.frozen_of_heap HL0.tok 2
    clear HL0
    have mm := fun W : World => run_makeMap_plain (P := Tryd.prog) (w := W) 68
    have q0 := eq_true (show (0 : Int) < (a0.size : Int) by omega)
    have q1 := eq_true hs.1
    have hx0 : ∀ h : 0 < a0.size, ((a0[0]'h).toNat : Int) = bt a0 0 := fun h => bt_at a0 0 h
    have HS := Aside0.mk hs
    clear hs
    obtain ⟨v, hv⟩ : ∃ v : Int, v = bt a0 0 := ⟨_, rfl⟩
    cases t1 with
    | true =>
      rw [if_pos rfl] at h
      replace h := Option.bind_eq_some_iff.mp h
      obtain ⟨n, B_, h⟩ := h
      have A2 := Aside0.mk B_
      clear B_
      by_cases d : n ≤ 32
      · rw [if_pos d] at h
        have d1 : decide (n ≤ 32) = true := decide_eq_true d
        by_cases g : 0 ≤ n ∧ n ≤ (a0.size : Int)
        · rw [if_pos g] at h
          have g1 := eq_true g.1
          have g2 := eq_true g.2
          replace h := Option.bind_eq_some_iff.mp h
          obtain ⟨t, B_, h⟩ := h
          have A3 := Aside0.mk B_
          clear B_
          simp only [Option.some.injEq, Prod.mk.injEq] at h
          obtain ⟨rfl, rfl, rfl, rfl⟩ := h
          clear d g
          go_enter Tryd.func26, Tryd.ntmps26
          go_wp2_with (first | (go_at_call 36; (with_reducible refine (lex_is.calls (bt a0 0) (⟨#[97, 98, 99, 100, 101, 102, 103, 104, 105, 106, 107, 108, 109, 110, 111, 112, 113, 114, 115, 116, 117, 118, 119, 120, 121, 122, 65, 66, 67, 68, 69, 70, 71, 72, 73, 74, 75, 76, 77, 78, 79, 80, 81, 82, 83, 84, 85, 86, 87, 88, 89, 90, 95]⟩ : ByteArray) true _ A1.out).mono ?_); rintro e w' ⟨rfl, ⟨nd, rfl⟩⟩) | (go_at_call 33; (with_reducible refine (lex_run.calls k a0 (⟨#[97, 98, 99, 100, 101, 102, 103, 104, 105, 106, 107, 108, 109, 110, 111, 112, 113, 114, 115, 116, 117, 118, 119, 120, 121, 122, 65, 66, 67, 68, 69, 70, 71, 72, 73, 74, 75, 76, 77, 78, 79, 80, 81, 82, 83, 84, 85, 86, 87, 88, 89, 90, 95, 48, 49, 50, 51, 52, 53, 54, 55, 56, 57]⟩ : ByteArray) n _ A2.out).mono ?_); rintro e w' ⟨rfl, ⟨nd, rfl⟩⟩) | (go_at_call 37; (with_reducible refine (lex_small.calls (a0.extract 0 n.toNat) t _ A3.out).mono ?_); rintro e w5 ⟨rfl, hb⟩; have tk := lex_one.keep HL.out (by first | rfl | simp) hb; have hb5 : Below w.heap.size w w5 := Below.trans (pw_below_drewN HB.out _) (hb.mono (by show w.heap.size ≤ W4.heap.size; have := HL.out.size; omega)); obtain ⟨d0_, d1_, d2_, g0_, g1_, g2_⟩ := lex_one.facts tk))
          refine bodyPost_ret (results_ct rfl _ _ w.heap.size 25 #[.int .i64 1, .string t, .int .i64 0] (0, 0) _ rfl (lex_one.tok3 tk _ _ _) Tryd.underlying25 rfl (by kernel_rfl)) rfl ?_
          refine ⟨rfl, ?_⟩
          exact ((Below.setCell (p := ⟨w.heap.size, 0, none⟩) hb5 (Nat.le_refl _) _).setCell (p := ⟨w.heap.size, 1, none⟩) (Nat.le_refl _) _).setCell (p := ⟨w.heap.size, 2, none⟩) (Nat.le_refl _) _
        · rw [if_neg g] at h; exact absurd h (by simp)
      · rw [if_neg d] at h
        simp only [Option.some.injEq, Prod.mk.injEq] at h
        obtain ⟨rfl, rfl, rfl, rfl⟩ := h
        have d1 : decide (n ≤ 32) = false := decide_eq_false d
        clear d
        go_enter Tryd.func26, Tryd.ntmps26
        go_wp2_with (first | (go_at_call 36; (with_reducible refine (lex_is.calls (bt a0 0) (⟨#[97, 98, 99, 100, 101, 102, 103, 104, 105, 106, 107, 108, 109, 110, 111, 112, 113, 114, 115, 116, 117, 118, 119, 120, 121, 122, 65, 66, 67, 68, 69, 70, 71, 72, 73, 74, 75, 76, 77, 78, 79, 80, 81, 82, 83, 84, 85, 86, 87, 88, 89, 90, 95]⟩ : ByteArray) true _ A1.out).mono ?_); rintro e w' ⟨rfl, ⟨nd, rfl⟩⟩) | (go_at_call 33; (with_reducible refine (lex_run.calls k a0 (⟨#[97, 98, 99, 100, 101, 102, 103, 104, 105, 106, 107, 108, 109, 110, 111, 112, 113, 114, 115, 116, 117, 118, 119, 120, 121, 122, 65, 66, 67, 68, 69, 70, 71, 72, 73, 74, 75, 76, 77, 78, 79, 80, 81, 82, 83, 84, 85, 86, 87, 88, 89, 90, 95, 48, 49, 50, 51, 52, 53, 54, 55, 56, 57]⟩ : ByteArray) n _ A2.out).mono ?_); rintro e w' ⟨rfl, ⟨nd, rfl⟩⟩))
        refine bodyPost_ret (results_ct rfl _ _ w.heap.size 25 #[.int .i64 0, .string ⟨#[]⟩, .int .i64 0] (0, 0) _ rfl (lex_one.tok3 (by first | exact HL.out.tok | (rw [show (World.drewN W4 _).heap = W4.heap from rfl]; exact HL.out.tok) | simpa using HL.out.tok) _ _ _) Tryd.underlying25 rfl (by kernel_rfl)) rfl ?_
        refine ⟨rfl, ?_⟩
        exact ((Below.setCell (p := ⟨w.heap.size, 0, none⟩) (pw_below_drewN HB.out _) (Nat.le_refl _) _).setCell (p := ⟨w.heap.size, 1, none⟩) (Nat.le_refl _) _).setCell (p := ⟨w.heap.size, 2, none⟩) (Nat.le_refl _) _
    | false =>
      rw [if_neg (by decide)] at h
      replace h := Option.bind_eq_some_iff.mp h
      obtain ⟨t2, B_, h⟩ := h
      have A2 := Aside0.mk B_
      clear B_
      cases t2 with
      | true =>
        rw [if_pos rfl] at h
        replace h := Option.bind_eq_some_iff.mp h
        obtain ⟨n, B_, h⟩ := h
        have A3 := Aside0.mk B_
        clear B_
        by_cases g : 0 ≤ n ∧ n ≤ (a0.size : Int)
        · rw [if_pos g] at h
          have g1 := eq_true g.1
          have g2 := eq_true g.2
          by_cases d : n ≤ 40
          · rw [if_pos d] at h
            have d1 : decide (n ≤ 40) = true := decide_eq_true d
            by_cases y : n = (a0.size : Int)
            · rw [if_pos y] at h
              have y1 : decide (n = (a0.size : Int)) = true := decide_eq_true y
              have y2 : (n == (a0.size : Int)) = true := by rw [y]; simp
              simp only [Option.some.injEq, Prod.mk.injEq] at h
              obtain ⟨rfl, rfl, rfl, rfl⟩ := h
              clear d y g
              go_enter Tryd.func26, Tryd.ntmps26
              go_wp2_with (first | (go_at_call 36; (with_reducible refine (lex_is.calls (bt a0 0) (⟨#[97, 98, 99, 100, 101, 102, 103, 104, 105, 106, 107, 108, 109, 110, 111, 112, 113, 114, 115, 116, 117, 118, 119, 120, 121, 122, 65, 66, 67, 68, 69, 70, 71, 72, 73, 74, 75, 76, 77, 78, 79, 80, 81, 82, 83, 84, 85, 86, 87, 88, 89, 90, 95]⟩ : ByteArray) false _ A1.out).mono ?_); rintro e w' ⟨rfl, ⟨nd, rfl⟩⟩) | (go_at_call 36; (with_reducible refine (lex_is.calls (bt a0 0) (⟨#[48, 49, 50, 51, 52, 53, 54, 55, 56, 57]⟩ : ByteArray) true _ A2.out).mono ?_); rintro e w' ⟨rfl, ⟨nd, rfl⟩⟩) | (go_at_call 38; (with_reducible refine (lex_number.calls k a0 n _ A3.out).mono ?_); rintro e w' ⟨rfl, ⟨nd, rfl⟩⟩))
              refine bodyPost_ret (results_ct rfl _ _ w.heap.size 25 #[.int .i64 2, .string (a0.extract 0 n.toNat), .int .i64 0] (0, 0) _ rfl (lex_one.tok3 (by first | exact HL.out.tok | (rw [show (World.drewN W4 _).heap = W4.heap from rfl]; exact HL.out.tok) | simpa using HL.out.tok) _ _ _) Tryd.underlying25 rfl (by kernel_rfl)) rfl ?_
              refine ⟨rfl, ?_⟩
              exact ((Below.setCell (p := ⟨w.heap.size, 0, none⟩) (pw_below_drewN HB.out _) (Nat.le_refl _) _).setCell (p := ⟨w.heap.size, 1, none⟩) (Nat.le_refl _) _).setCell (p := ⟨w.heap.size, 2, none⟩) (Nat.le_refl _) _
            · rw [if_neg y] at h
              have y1 : decide (n = (a0.size : Int)) = false := decide_eq_false y
              have y2 : (n == (a0.size : Int)) = false := by simpa using y
              have y3 := eq_true (show n < (a0.size : Int) by omega)
              have y4 := bt_at a0 n
              replace h := Option.bind_eq_some_iff.mp h
              obtain ⟨t3, B_, h⟩ := h
              have A4 := Aside0.mk B_
              clear B_
              cases t3 with
              | true =>
                rw [if_pos rfl] at h
                simp only [Option.some.injEq, Prod.mk.injEq] at h
                obtain ⟨rfl, rfl, rfl, rfl⟩ := h
                clear d y g
                go_enter Tryd.func26, Tryd.ntmps26
                go_wp2_with (first | (go_at_call 36; (with_reducible refine (lex_is.calls (bt a0 0) (⟨#[97, 98, 99, 100, 101, 102, 103, 104, 105, 106, 107, 108, 109, 110, 111, 112, 113, 114, 115, 116, 117, 118, 119, 120, 121, 122, 65, 66, 67, 68, 69, 70, 71, 72, 73, 74, 75, 76, 77, 78, 79, 80, 81, 82, 83, 84, 85, 86, 87, 88, 89, 90, 95]⟩ : ByteArray) false _ A1.out).mono ?_); rintro e w' ⟨rfl, ⟨nd, rfl⟩⟩) | (go_at_call 36; (with_reducible refine (lex_is.calls (bt a0 0) (⟨#[48, 49, 50, 51, 52, 53, 54, 55, 56, 57]⟩ : ByteArray) true _ A2.out).mono ?_); rintro e w' ⟨rfl, ⟨nd, rfl⟩⟩) | (go_at_call 38; (with_reducible refine (lex_number.calls k a0 n _ A3.out).mono ?_); rintro e w' ⟨rfl, ⟨nd, rfl⟩⟩) | (go_at_call 36; (with_reducible refine (lex_is.calls (bt a0 n) (⟨#[97, 98, 99, 100, 101, 102, 103, 104, 105, 106, 107, 108, 109, 110, 111, 112, 113, 114, 115, 116, 117, 118, 119, 120, 121, 122, 65, 66, 67, 68, 69, 70, 71, 72, 73, 74, 75, 76, 77, 78, 79, 80, 81, 82, 83, 84, 85, 86, 87, 88, 89, 90, 95]⟩ : ByteArray) true _ A4.out).mono ?_); rintro e w' ⟨rfl, ⟨nd, rfl⟩⟩))
                refine bodyPost_ret (results_ct rfl _ _ w.heap.size 25 #[.int .i64 0, .string ⟨#[]⟩, .int .i64 0] (0, 0) _ rfl (lex_one.tok3 (by first | exact HL.out.tok | (rw [show (World.drewN W4 _).heap = W4.heap from rfl]; exact HL.out.tok) | simpa using HL.out.tok) _ _ _) Tryd.underlying25 rfl (by kernel_rfl)) rfl ?_
                refine ⟨rfl, ?_⟩
                exact ((Below.setCell (p := ⟨w.heap.size, 0, none⟩) (pw_below_drewN HB.out _) (Nat.le_refl _) _).setCell (p := ⟨w.heap.size, 1, none⟩) (Nat.le_refl _) _).setCell (p := ⟨w.heap.size, 2, none⟩) (Nat.le_refl _) _
              | false =>
                rw [if_neg (by decide)] at h
                simp only [Option.some.injEq, Prod.mk.injEq] at h
                obtain ⟨rfl, rfl, rfl, rfl⟩ := h
                clear d y g
                go_enter Tryd.func26, Tryd.ntmps26
                go_wp2_with (first | (go_at_call 36; (with_reducible refine (lex_is.calls (bt a0 0) (⟨#[97, 98, 99, 100, 101, 102, 103, 104, 105, 106, 107, 108, 109, 110, 111, 112, 113, 114, 115, 116, 117, 118, 119, 120, 121, 122, 65, 66, 67, 68, 69, 70, 71, 72, 73, 74, 75, 76, 77, 78, 79, 80, 81, 82, 83, 84, 85, 86, 87, 88, 89, 90, 95]⟩ : ByteArray) false _ A1.out).mono ?_); rintro e w' ⟨rfl, ⟨nd, rfl⟩⟩) | (go_at_call 36; (with_reducible refine (lex_is.calls (bt a0 0) (⟨#[48, 49, 50, 51, 52, 53, 54, 55, 56, 57]⟩ : ByteArray) true _ A2.out).mono ?_); rintro e w' ⟨rfl, ⟨nd, rfl⟩⟩) | (go_at_call 38; (with_reducible refine (lex_number.calls k a0 n _ A3.out).mono ?_); rintro e w' ⟨rfl, ⟨nd, rfl⟩⟩) | (go_at_call 36; (with_reducible refine (lex_is.calls (bt a0 n) (⟨#[97, 98, 99, 100, 101, 102, 103, 104, 105, 106, 107, 108, 109, 110, 111, 112, 113, 114, 115, 116, 117, 118, 119, 120, 121, 122, 65, 66, 67, 68, 69, 70, 71, 72, 73, 74, 75, 76, 77, 78, 79, 80, 81, 82, 83, 84, 85, 86, 87, 88, 89, 90, 95]⟩ : ByteArray) false _ A4.out).mono ?_); rintro e w' ⟨rfl, ⟨nd, rfl⟩⟩))
                refine bodyPost_ret (results_ct rfl _ _ w.heap.size 25 #[.int .i64 2, .string (a0.extract 0 n.toNat), .int .i64 0] (0, 0) _ rfl (lex_one.tok3 (by first | exact HL.out.tok | (rw [show (World.drewN W4 _).heap = W4.heap from rfl]; exact HL.out.tok) | simpa using HL.out.tok) _ _ _) Tryd.underlying25 rfl (by kernel_rfl)) rfl ?_
                refine ⟨rfl, ?_⟩
                exact ((Below.setCell (p := ⟨w.heap.size, 0, none⟩) (pw_below_drewN HB.out _) (Nat.le_refl _) _).setCell (p := ⟨w.heap.size, 1, none⟩) (Nat.le_refl _) _).setCell (p := ⟨w.heap.size, 2, none⟩) (Nat.le_refl _) _
          · rw [if_neg d] at h
            have d1 : decide (n ≤ 40) = false := decide_eq_false d
            simp only [Option.some.injEq, Prod.mk.injEq] at h
            obtain ⟨rfl, rfl, rfl, rfl⟩ := h
            clear d g
            go_enter Tryd.func26, Tryd.ntmps26
            go_wp2_with (first | (go_at_call 36; (with_reducible refine (lex_is.calls (bt a0 0) (⟨#[97, 98, 99, 100, 101, 102, 103, 104, 105, 106, 107, 108, 109, 110, 111, 112, 113, 114, 115, 116, 117, 118, 119, 120, 121, 122, 65, 66, 67, 68, 69, 70, 71, 72, 73, 74, 75, 76, 77, 78, 79, 80, 81, 82, 83, 84, 85, 86, 87, 88, 89, 90, 95]⟩ : ByteArray) false _ A1.out).mono ?_); rintro e w' ⟨rfl, ⟨nd, rfl⟩⟩) | (go_at_call 36; (with_reducible refine (lex_is.calls (bt a0 0) (⟨#[48, 49, 50, 51, 52, 53, 54, 55, 56, 57]⟩ : ByteArray) true _ A2.out).mono ?_); rintro e w' ⟨rfl, ⟨nd, rfl⟩⟩) | (go_at_call 38; (with_reducible refine (lex_number.calls k a0 n _ A3.out).mono ?_); rintro e w' ⟨rfl, ⟨nd, rfl⟩⟩))
            refine bodyPost_ret (results_ct rfl _ _ w.heap.size 25 #[.int .i64 0, .string ⟨#[]⟩, .int .i64 0] (0, 0) _ rfl (lex_one.tok3 (by first | exact HL.out.tok | (rw [show (World.drewN W4 _).heap = W4.heap from rfl]; exact HL.out.tok) | simpa using HL.out.tok) _ _ _) Tryd.underlying25 rfl (by kernel_rfl)) rfl ?_
            refine ⟨rfl, ?_⟩
            exact ((Below.setCell (p := ⟨w.heap.size, 0, none⟩) (pw_below_drewN HB.out _) (Nat.le_refl _) _).setCell (p := ⟨w.heap.size, 1, none⟩) (Nat.le_refl _) _).setCell (p := ⟨w.heap.size, 2, none⟩) (Nat.le_refl _) _
        · rw [if_neg g] at h; exact absurd h (by simp)
      | false =>
        rw [if_neg (by decide)] at h
        by_cases c : bt a0 0 = 39
        · rw [if_pos c] at h
          have x1 : decide (bt a0 0 = 39) = true := decide_eq_true c
          have x2 : (bt a0 0 == 39) = true := by simpa using c
          replace h := Option.bind_eq_some_iff.mp h
          obtain ⟨q, B_, h⟩ := h
          have A3 := Aside0.mk B_
          clear B_
          by_cases d : 0 < q.2
          · rw [if_pos d] at h
            have d1 : decide (0 < q.2) = true := decide_eq_true d
            have d2 : decide (q.2 > 0) = true := decide_eq_true d
            by_cases y : q.1.size ≤ 256
            · rw [if_pos y] at h
              have y1 : decide ((q.1.size : Int) ≤ 256) = true := decide_eq_true (by omega)
              simp only [Option.some.injEq, Prod.mk.injEq] at h
              obtain ⟨rfl, rfl, rfl, rfl⟩ := h
              clear c d y
              go_enter Tryd.func26, Tryd.ntmps26
              go_wp2_with (first | (go_at_call 36; (with_reducible refine (lex_is.calls (bt a0 0) (⟨#[97, 98, 99, 100, 101, 102, 103, 104, 105, 106, 107, 108, 109, 110, 111, 112, 113, 114, 115, 116, 117, 118, 119, 120, 121, 122, 65, 66, 67, 68, 69, 70, 71, 72, 73, 74, 75, 76, 77, 78, 79, 80, 81, 82, 83, 84, 85, 86, 87, 88, 89, 90, 95]⟩ : ByteArray) false _ A1.out).mono ?_); rintro e w' ⟨rfl, ⟨nd, rfl⟩⟩) | (go_at_call 36; (with_reducible refine (lex_is.calls (bt a0 0) (⟨#[48, 49, 50, 51, 52, 53, 54, 55, 56, 57]⟩ : ByteArray) false _ A2.out).mono ?_); rintro e w' ⟨rfl, ⟨nd, rfl⟩⟩) | (go_at_call 39; (with_reducible refine (lex_quoted.calls a0 q _ A3.out).mono ?_); rintro e w5 ⟨rfl, hb⟩; have tk := lex_one.keep HL.out (by first | rfl | simp) hb; have hb5 : Below w.heap.size w w5 := Below.trans (pw_below_drewN HB.out _) (hb.mono (by show w.heap.size ≤ W4.heap.size; have := HL.out.size; omega)); obtain ⟨d0_, d1_, d2_, g0_, g1_, g2_⟩ := lex_one.facts tk))
              refine bodyPost_ret (results_ct rfl _ _ w.heap.size 25 #[.int .i64 3, .string q.1, .int .i64 0] (0, 0) _ rfl (lex_one.tok3 tk _ _ _) Tryd.underlying25 rfl (by kernel_rfl)) rfl ?_
              refine ⟨rfl, ?_⟩
              exact ((Below.setCell (p := ⟨w.heap.size, 0, none⟩) hb5 (Nat.le_refl _) _).setCell (p := ⟨w.heap.size, 1, none⟩) (Nat.le_refl _) _).setCell (p := ⟨w.heap.size, 2, none⟩) (Nat.le_refl _) _
            · rw [if_neg y] at h
              have y1 : decide ((q.1.size : Int) ≤ 256) = false := decide_eq_false (by omega)
              simp only [Option.some.injEq, Prod.mk.injEq] at h
              obtain ⟨rfl, rfl, rfl, rfl⟩ := h
              clear c d y
              go_enter Tryd.func26, Tryd.ntmps26
              go_wp2_with (first | (go_at_call 36; (with_reducible refine (lex_is.calls (bt a0 0) (⟨#[97, 98, 99, 100, 101, 102, 103, 104, 105, 106, 107, 108, 109, 110, 111, 112, 113, 114, 115, 116, 117, 118, 119, 120, 121, 122, 65, 66, 67, 68, 69, 70, 71, 72, 73, 74, 75, 76, 77, 78, 79, 80, 81, 82, 83, 84, 85, 86, 87, 88, 89, 90, 95]⟩ : ByteArray) false _ A1.out).mono ?_); rintro e w' ⟨rfl, ⟨nd, rfl⟩⟩) | (go_at_call 36; (with_reducible refine (lex_is.calls (bt a0 0) (⟨#[48, 49, 50, 51, 52, 53, 54, 55, 56, 57]⟩ : ByteArray) false _ A2.out).mono ?_); rintro e w' ⟨rfl, ⟨nd, rfl⟩⟩) | (go_at_call 39; (with_reducible refine (lex_quoted.calls a0 q _ A3.out).mono ?_); rintro e w5 ⟨rfl, hb⟩; have tk := lex_one.keep HL.out (by first | rfl | simp) hb; have hb5 : Below w.heap.size w w5 := Below.trans (pw_below_drewN HB.out _) (hb.mono (by show w.heap.size ≤ W4.heap.size; have := HL.out.size; omega)); obtain ⟨d0_, d1_, d2_, g0_, g1_, g2_⟩ := lex_one.facts tk))
              refine bodyPost_ret (results_ct rfl _ _ w.heap.size 25 #[.int .i64 0, .string ⟨#[]⟩, .int .i64 0] (0, 0) _ rfl (lex_one.tok3 tk _ _ _) Tryd.underlying25 rfl (by kernel_rfl)) rfl ?_
              refine ⟨rfl, ?_⟩
              exact ((Below.setCell (p := ⟨w.heap.size, 0, none⟩) hb5 (Nat.le_refl _) _).setCell (p := ⟨w.heap.size, 1, none⟩) (Nat.le_refl _) _).setCell (p := ⟨w.heap.size, 2, none⟩) (Nat.le_refl _) _
          · rw [if_neg d] at h
            have d1 : decide (0 < q.2) = false := decide_eq_false d
            have d2 : decide (q.2 > 0) = false := decide_eq_false d
            simp only [Option.some.injEq, Prod.mk.injEq] at h
            obtain ⟨rfl, rfl, rfl, rfl⟩ := h
            clear c d
            go_enter Tryd.func26, Tryd.ntmps26
            go_wp2_with (first | (go_at_call 36; (with_reducible refine (lex_is.calls (bt a0 0) (⟨#[97, 98, 99, 100, 101, 102, 103, 104, 105, 106, 107, 108, 109, 110, 111, 112, 113, 114, 115, 116, 117, 118, 119, 120, 121, 122, 65, 66, 67, 68, 69, 70, 71, 72, 73, 74, 75, 76, 77, 78, 79, 80, 81, 82, 83, 84, 85, 86, 87, 88, 89, 90, 95]⟩ : ByteArray) false _ A1.out).mono ?_); rintro e w' ⟨rfl, ⟨nd, rfl⟩⟩) | (go_at_call 36; (with_reducible refine (lex_is.calls (bt a0 0) (⟨#[48, 49, 50, 51, 52, 53, 54, 55, 56, 57]⟩ : ByteArray) false _ A2.out).mono ?_); rintro e w' ⟨rfl, ⟨nd, rfl⟩⟩) | (go_at_call 39; (with_reducible refine (lex_quoted.calls a0 q _ A3.out).mono ?_); rintro e w5 ⟨rfl, hb⟩; have tk := lex_one.keep HL.out (by first | rfl | simp) hb; have hb5 : Below w.heap.size w w5 := Below.trans (pw_below_drewN HB.out _) (hb.mono (by show w.heap.size ≤ W4.heap.size; have := HL.out.size; omega)); obtain ⟨d0_, d1_, d2_, g0_, g1_, g2_⟩ := lex_one.facts tk))
            refine bodyPost_ret (results_ct rfl _ _ w.heap.size 25 #[.int .i64 0, .string ⟨#[]⟩, .int .i64 0] (0, 0) _ rfl (lex_one.tok3 tk _ _ _) Tryd.underlying25 rfl (by kernel_rfl)) rfl ?_
            refine ⟨rfl, ?_⟩
            exact ((Below.setCell (p := ⟨w.heap.size, 0, none⟩) hb5 (Nat.le_refl _) _).setCell (p := ⟨w.heap.size, 1, none⟩) (Nat.le_refl _) _).setCell (p := ⟨w.heap.size, 2, none⟩) (Nat.le_refl _) _
        · rw [if_neg c] at h
          have x1 : decide (bt a0 0 = 39) = false := decide_eq_false c
          have x2 : (bt a0 0 == 39) = false := by simpa using c
          have lk := fun m => lex_one.look (W4.drewN m) _ (a0.extract 0 2) (show (W4.drewN m).heap[w.heap.size + 1]? = _ from HL.out.map)
          by_cases z : 1 < a0.size ∧ lex_one.tw (a0.extract 0 2) = true
          · rw [if_pos z] at h
            obtain ⟨z1, z2⟩ := z
            rw [z2] at lk
            have z3 : decide (1 < (a0.size : Int)) = true := decide_eq_true (by omega)
            have z4 : decide ((a0.size : Int) > 1) = true := decide_eq_true (by omega)
            have z5 := eq_true (show (2 : Int) ≤ (a0.size : Int) by omega)
            have z6 := eq_true (show 2 ≤ a0.size by omega)
            simp only [Option.some.injEq, Prod.mk.injEq] at h
            obtain ⟨rfl, rfl, rfl, rfl⟩ := h
            clear c z1
            go_enter Tryd.func26, Tryd.ntmps26
            go_wp2_with (first | (go_at_call 36; (with_reducible refine (lex_is.calls (bt a0 0) (⟨#[97, 98, 99, 100, 101, 102, 103, 104, 105, 106, 107, 108, 109, 110, 111, 112, 113, 114, 115, 116, 117, 118, 119, 120, 121, 122, 65, 66, 67, 68, 69, 70, 71, 72, 73, 74, 75, 76, 77, 78, 79, 80, 81, 82, 83, 84, 85, 86, 87, 88, 89, 90, 95]⟩ : ByteArray) false _ A1.out).mono ?_); rintro e w' ⟨rfl, ⟨nd, rfl⟩⟩) | (go_at_call 36; (with_reducible refine (lex_is.calls (bt a0 0) (⟨#[48, 49, 50, 51, 52, 53, 54, 55, 56, 57]⟩ : ByteArray) false _ A2.out).mono ?_); rintro e w' ⟨rfl, ⟨nd, rfl⟩⟩))
            refine bodyPost_ret (results_ct rfl _ _ w.heap.size 25 #[.int .i64 4, .string (a0.extract 0 2), .int .i64 0] (0, 0) _ rfl (lex_one.tok3 (by first | exact HL.out.tok | (rw [show (World.drewN W4 _).heap = W4.heap from rfl]; exact HL.out.tok) | simpa using HL.out.tok) _ _ _) Tryd.underlying25 rfl (by kernel_rfl)) rfl ?_
            refine ⟨rfl, ?_⟩
            exact ((Below.setCell (p := ⟨w.heap.size, 0, none⟩) (pw_below_drewN HB.out _) (Nat.le_refl _) _).setCell (p := ⟨w.heap.size, 1, none⟩) (Nat.le_refl _) _).setCell (p := ⟨w.heap.size, 2, none⟩) (Nat.le_refl _) _
          · rw [if_neg z] at h
            replace h := Option.bind_eq_some_iff.mp h
            obtain ⟨t4, B_, h⟩ := h
            have A3 := Aside0.mk B_
            clear B_
            have o1 := eq_true (show (1 : Int) ≤ (a0.size : Int) by have := HS.out; omega)
            have o2 := eq_true (show 1 ≤ a0.size by have := HS.out; omega)
            by_cases z1 : 1 < a0.size
            · have z3 : decide (1 < (a0.size : Int)) = true := decide_eq_true (by omega)
              have z4 : decide ((a0.size : Int) > 1) = true := decide_eq_true (by omega)
              have z2 : lex_one.tw (a0.extract 0 2) = false := by
                cases e : lex_one.tw (a0.extract 0 2) with
                | false => rfl
                | true => exact absurd ⟨z1, e⟩ z
              rw [z2] at lk
              have z5 := eq_true (show (2 : Int) ≤ (a0.size : Int) by omega)
              have z6 := eq_true (show 2 ≤ a0.size by omega)
              clear c z1 z
              cases t4 with
              | true =>
                rw [if_pos rfl] at h
                simp only [Option.some.injEq, Prod.mk.injEq] at h
                obtain ⟨rfl, rfl, rfl, rfl⟩ := h
                go_enter Tryd.func26, Tryd.ntmps26
                go_wp2_with (first | (go_at_call 36; (with_reducible refine (lex_is.calls (bt a0 0) (⟨#[97, 98, 99, 100, 101, 102, 103, 104, 105, 106, 107, 108, 109, 110, 111, 112, 113, 114, 115, 116, 117, 118, 119, 120, 121, 122, 65, 66, 67, 68, 69, 70, 71, 72, 73, 74, 75, 76, 77, 78, 79, 80, 81, 82, 83, 84, 85, 86, 87, 88, 89, 90, 95]⟩ : ByteArray) false _ A1.out).mono ?_); rintro e w' ⟨rfl, ⟨nd, rfl⟩⟩) | (go_at_call 36; (with_reducible refine (lex_is.calls (bt a0 0) (⟨#[48, 49, 50, 51, 52, 53, 54, 55, 56, 57]⟩ : ByteArray) false _ A2.out).mono ?_); rintro e w' ⟨rfl, ⟨nd, rfl⟩⟩) | (go_at_call 36; (with_reducible refine (lex_is.calls (bt a0 0) (⟨#[40, 41, 44, 46, 59, 42, 43, 45, 47, 37, 61, 60, 62]⟩ : ByteArray) true _ A3.out).mono ?_); rintro e w' ⟨rfl, ⟨nd, rfl⟩⟩))
                refine bodyPost_ret (results_ct rfl _ _ w.heap.size 25 #[.int .i64 4, .string (a0.extract 0 1), .int .i64 0] (0, 0) _ rfl (lex_one.tok3 (by first | exact HL.out.tok | (rw [show (World.drewN W4 _).heap = W4.heap from rfl]; exact HL.out.tok) | simpa using HL.out.tok) _ _ _) Tryd.underlying25 rfl (by kernel_rfl)) rfl ?_
                refine ⟨rfl, ?_⟩
                exact ((Below.setCell (p := ⟨w.heap.size, 0, none⟩) (pw_below_drewN HB.out _) (Nat.le_refl _) _).setCell (p := ⟨w.heap.size, 1, none⟩) (Nat.le_refl _) _).setCell (p := ⟨w.heap.size, 2, none⟩) (Nat.le_refl _) _
              | false =>
                rw [if_neg (by decide)] at h
                simp only [Option.some.injEq, Prod.mk.injEq] at h
                obtain ⟨rfl, rfl, rfl, rfl⟩ := h
                go_enter Tryd.func26, Tryd.ntmps26
                go_wp2_with (first | (go_at_call 36; (with_reducible refine (lex_is.calls (bt a0 0) (⟨#[97, 98, 99, 100, 101, 102, 103, 104, 105, 106, 107, 108, 109, 110, 111, 112, 113, 114, 115, 116, 117, 118, 119, 120, 121, 122, 65, 66, 67, 68, 69, 70, 71, 72, 73, 74, 75, 76, 77, 78, 79, 80, 81, 82, 83, 84, 85, 86, 87, 88, 89, 90, 95]⟩ : ByteArray) false _ A1.out).mono ?_); rintro e w' ⟨rfl, ⟨nd, rfl⟩⟩) | (go_at_call 36; (with_reducible refine (lex_is.calls (bt a0 0) (⟨#[48, 49, 50, 51, 52, 53, 54, 55, 56, 57]⟩ : ByteArray) false _ A2.out).mono ?_); rintro e w' ⟨rfl, ⟨nd, rfl⟩⟩) | (go_at_call 36; (with_reducible refine (lex_is.calls (bt a0 0) (⟨#[40, 41, 44, 46, 59, 42, 43, 45, 47, 37, 61, 60, 62]⟩ : ByteArray) false _ A3.out).mono ?_); rintro e w' ⟨rfl, ⟨nd, rfl⟩⟩))
                refine bodyPost_ret (results_ct rfl _ _ w.heap.size 25 #[.int .i64 0, .string ⟨#[]⟩, .int .i64 0] (0, 0) _ rfl (lex_one.tok3 (by first | exact HL.out.tok | (rw [show (World.drewN W4 _).heap = W4.heap from rfl]; exact HL.out.tok) | simpa using HL.out.tok) _ _ _) Tryd.underlying25 rfl (by kernel_rfl)) rfl ?_
                refine ⟨rfl, ?_⟩
                exact ((Below.setCell (p := ⟨w.heap.size, 0, none⟩) (pw_below_drewN HB.out _) (Nat.le_refl _) _).setCell (p := ⟨w.heap.size, 1, none⟩) (Nat.le_refl _) _).setCell (p := ⟨w.heap.size, 2, none⟩) (Nat.le_refl _) _
            · have z3 : decide (1 < (a0.size : Int)) = false := decide_eq_false (by omega)
              have z4 : decide ((a0.size : Int) > 1) = false := decide_eq_false (by omega)
              clear c z1 z
              cases t4 with
              | true =>
                rw [if_pos rfl] at h
                simp only [Option.some.injEq, Prod.mk.injEq] at h
                obtain ⟨rfl, rfl, rfl, rfl⟩ := h
                go_enter Tryd.func26, Tryd.ntmps26
                go_wp2_with (first | (go_at_call 36; (with_reducible refine (lex_is.calls (bt a0 0) (⟨#[97, 98, 99, 100, 101, 102, 103, 104, 105, 106, 107, 108, 109, 110, 111, 112, 113, 114, 115, 116, 117, 118, 119, 120, 121, 122, 65, 66, 67, 68, 69, 70, 71, 72, 73, 74, 75, 76, 77, 78, 79, 80, 81, 82, 83, 84, 85, 86, 87, 88, 89, 90, 95]⟩ : ByteArray) false _ A1.out).mono ?_); rintro e w' ⟨rfl, ⟨nd, rfl⟩⟩) | (go_at_call 36; (with_reducible refine (lex_is.calls (bt a0 0) (⟨#[48, 49, 50, 51, 52, 53, 54, 55, 56, 57]⟩ : ByteArray) false _ A2.out).mono ?_); rintro e w' ⟨rfl, ⟨nd, rfl⟩⟩) | (go_at_call 36; (with_reducible refine (lex_is.calls (bt a0 0) (⟨#[40, 41, 44, 46, 59, 42, 43, 45, 47, 37, 61, 60, 62]⟩ : ByteArray) true _ A3.out).mono ?_); rintro e w' ⟨rfl, ⟨nd, rfl⟩⟩))
                refine bodyPost_ret (results_ct rfl _ _ w.heap.size 25 #[.int .i64 4, .string (a0.extract 0 1), .int .i64 0] (0, 0) _ rfl (lex_one.tok3 (by first | exact HL.out.tok | (rw [show (World.drewN W4 _).heap = W4.heap from rfl]; exact HL.out.tok) | simpa using HL.out.tok) _ _ _) Tryd.underlying25 rfl (by kernel_rfl)) rfl ?_
                refine ⟨rfl, ?_⟩
                exact ((Below.setCell (p := ⟨w.heap.size, 0, none⟩) (pw_below_drewN HB.out _) (Nat.le_refl _) _).setCell (p := ⟨w.heap.size, 1, none⟩) (Nat.le_refl _) _).setCell (p := ⟨w.heap.size, 2, none⟩) (Nat.le_refl _) _
              | false =>
                rw [if_neg (by decide)] at h
                simp only [Option.some.injEq, Prod.mk.injEq] at h
                obtain ⟨rfl, rfl, rfl, rfl⟩ := h
                go_enter Tryd.func26, Tryd.ntmps26
                go_wp2_with (first | (go_at_call 36; (with_reducible refine (lex_is.calls (bt a0 0) (⟨#[97, 98, 99, 100, 101, 102, 103, 104, 105, 106, 107, 108, 109, 110, 111, 112, 113, 114, 115, 116, 117, 118, 119, 120, 121, 122, 65, 66, 67, 68, 69, 70, 71, 72, 73, 74, 75, 76, 77, 78, 79, 80, 81, 82, 83, 84, 85, 86, 87, 88, 89, 90, 95]⟩ : ByteArray) false _ A1.out).mono ?_); rintro e w' ⟨rfl, ⟨nd, rfl⟩⟩) | (go_at_call 36; (with_reducible refine (lex_is.calls (bt a0 0) (⟨#[48, 49, 50, 51, 52, 53, 54, 55, 56, 57]⟩ : ByteArray) false _ A2.out).mono ?_); rintro e w' ⟨rfl, ⟨nd, rfl⟩⟩) | (go_at_call 36; (with_reducible refine (lex_is.calls (bt a0 0) (⟨#[40, 41, 44, 46, 59, 42, 43, 45, 47, 37, 61, 60, 62]⟩ : ByteArray) false _ A3.out).mono ?_); rintro e w' ⟨rfl, ⟨nd, rfl⟩⟩))
                refine bodyPost_ret (results_ct rfl _ _ w.heap.size 25 #[.int .i64 0, .string ⟨#[]⟩, .int .i64 0] (0, 0) _ rfl (lex_one.tok3 (by first | exact HL.out.tok | (rw [show (World.drewN W4 _).heap = W4.heap from rfl]; exact HL.out.tok) | simpa using HL.out.tok) _ _ _) Tryd.underlying25 rfl (by kernel_rfl)) rfl ?_
                refine ⟨rfl, ?_⟩
                exact ((Below.setCell (p := ⟨w.heap.size, 0, none⟩) (pw_below_drewN HB.out _) (Nat.le_refl _) _).setCell (p := ⟨w.heap.size, 1, none⟩) (Nat.le_refl _) _).setCell (p := ⟨w.heap.size, 2, none⟩) (Nat.le_refl _) _
  · rw [if_neg hs] at h; exact absurd h (by simp)


end Go.Proofs.YtmpamcfeijnafaaDoor.P
