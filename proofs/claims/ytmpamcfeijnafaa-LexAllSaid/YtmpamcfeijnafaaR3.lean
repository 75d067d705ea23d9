/- PRINTED BY A PROGRAM OF THIS SESSION (px.py, over the kit's print): Lean functions with the answers of Go functions of the given program, and proofs that the Go code comes to these answers; each under the conditions that its theorem states. -/
import Derived.Test.YtmpamcfeijnafaaR0
import Derived.Test.YtmpamcfeijnafaaR2
namespace Go.Proofs.Ytmpamcfeijnafaa.R
open Go.RowKit Go.Proofs.YtmpamcfeijnafaaW.PrintWords Go.Proofs.YtmpamcfeijnafaaW.PrintLast Go.Proofs.YtmpamcfeijnafaaW.PrintMore
attribute [local go_sem] max2_int min2_int max_two min_two max_three min_three max_four min_four   -- for this text's walks alone
set_option linter.unusedVariables false
set_option linter.unusedSimpArgs false

/-! ### lex_space: function 17 -/
def lex_space.l0 : Nat → ByteArray → Int → Option (Int)
  | 0, _, _ => none
  | k + 1, x0, x3 => (lex_run.f k x0 (⟨#[9, 10, 13, 32]⟩ : ByteArray)).bind fun t104 => (if 0 ≤ t104 then (if t104 ≤ (x0.size : Int) then ((strings_HasPrefix.f (x0.extract (t104 : Int).toNat x0.size) (⟨#[45, 45]⟩ : ByteArray)).bind fun t105 => (if t105 = true then ((strings_IndexByte.f (x0.extract (t104 : Int).toNat x0.size) 10).bind fun t106 => (if t106 < 0 then (some x3) else (if 0 ≤ t106 then (if t106 ≤ ((x0.extract (t104 : Int).toNat x0.size).size : Int) then (lex_space.l0 k ((x0.extract (t104 : Int).toNat x0.size).extract (t106 : Int).toNat (x0.extract (t104 : Int).toNat x0.size).size) x3) else (none)) else (none)))) else (some (wrap64 (x3 - ((x0.extract (t104 : Int).toNat x0.size).size : Int)))))) else (none)) else (none))
def lex_space.f (k : Nat) (a0 : ByteArray) : Option (Int) := lex_space.l0 k a0 (a0.size : Int)
theorem lex_space.mono_l : ∀ k, (∀ y0 y1, LeO (lex_space.l0 k y0 y1) (lex_space.l0 (k + 1) y0 y1))
  | 0 => fun _ _ r h => by simp [lex_space.l0] at h
  | k + 1 => by
    have ih0 := lex_space.mono_l k
    · intro y0 y1
      unfold lex_space.l0
      repeat' first
      | (with_reducible exact ih0 _ _)
      | (with_reducible exact lex_run.mono _ _ _)
      | (with_reducible exact LeO.refl _)
      | (with_reducible exact LeO.none _)
      | (with_reducible refine LeO.ite ?_ ?_)
      | (with_reducible refine LeO.bind ?_ (fun _ => ?_))
      | exact ih0 _ _
      | exact lex_run.mono _ _ _
      | exact LeO.none _
      | refine LeO.ite ?_ ?_
      | refine LeO.bind ?_ (fun _ => ?_)
theorem lex_space.mono : ∀ a0 k, LeO (lex_space.f k a0) (lex_space.f (k + 1) a0) := by
  intro a0 k
  have ih0 := lex_space.mono_l k
  unfold lex_space.f
  repeat' first
      | (with_reducible exact ih0 _ _)
      | (with_reducible exact lex_run.mono _ _ _)
      | (with_reducible exact LeO.refl _)
      | (with_reducible exact LeO.none _)
      | (with_reducible refine LeO.ite ?_ ?_)
      | (with_reducible refine LeO.bind ?_ (fun _ => ?_))
      | exact ih0 _ _
      | exact lex_run.mono _ _ _
      | exact LeO.none _
      | refine LeO.ite ?_ ?_
      | refine LeO.bind ?_ (fun _ => ?_)
set_option maxHeartbeats 8000000 in
set_option maxRecDepth 100000 in
theorem lex_space.calls (k : Nat) (a0 : ByteArray) (r : Int) (w : World) (h : lex_space.f k a0 = some r) :
    Calls Try.prog 17 #[.string a0] w fun e w' => e = .returned (.int .i64 r) ∧ Drawn0 w w' := by
  have H : (lex_space.l0 k a0 (a0.size : Int)) = some r := h
  clear h
  have H' := Aside0.mk H
  clear H
  go_enter Try.func17, Try.ntmps17
  go_wp2
  go_loopg [0] k (fun kq v0 w' => ∃ (x0_1 : ByteArray), v0 = .string x0_1 ∧ Aside0 (lex_space.l0 kq x0_1 (a0.size : Int) = some r) ∧ Aside0 (kq ≤ k) ∧ Drawn0 w w')
  case atStart => exact ⟨(a0), (by first | rfl | (simp; done) | (simp [*]; done)), H', ⟨Nat.le_refl _⟩, by repeat (first | exact Drawn0.refl _ | apply Drawn0.step)⟩
  case round =>
    clear H'
    try clear c1
    obtain ⟨x0_1, rfl, HA, HK1, ⟨m1, rfl⟩⟩ := hrel
    cases gk with
    | zero => exact absurd HA.out (by simp [lex_space.l0])
    | succ k1 =>
      have H := HA.out
      clear HA
      simp only [lex_space.l0] at H
      replace H := Option.bind_eq_some_iff.mp H
      obtain ⟨t104, A20, H⟩ := H
      replace H : (if 0 ≤ t104 then (if t104 ≤ (x0_1.size : Int) then ((strings_HasPrefix.f (x0_1.extract (t104 : Int).toNat x0_1.size) (⟨#[45, 45]⟩ : ByteArray)).bind fun t105 => (if t105 = true then ((strings_IndexByte.f (x0_1.extract (t104 : Int).toNat x0_1.size) 10).bind fun t106 => (if t106 < 0 then (some (a0.size : Int)) else (if 0 ≤ t106 then (if t106 ≤ ((x0_1.extract (t104 : Int).toNat x0_1.size).size : Int) then (lex_space.l0 k1 ((x0_1.extract (t104 : Int).toNat x0_1.size).extract (t106 : Int).toNat (x0_1.extract (t104 : Int).toNat x0_1.size).size) (a0.size : Int)) else (none)) else (none)))) else (some (wrap64 ((a0.size : Int) - ((x0_1.extract (t104 : Int).toNat x0_1.size).size : Int)))))) else (none)) else (none)) = some r := H
      have A2 := Aside0.mk A20
      clear A20
      by_cases c3 : 0 ≤ t104
      · rw [if_pos c3] at H
        have c3b0 := eq_true c3
        (try (have c3n := c3; simp [size_lit] at c3n))
        have c3b1 : decide (0 ≤ t104) = true := decide_eq_true c3
        clear c3
        by_cases c4 : t104 ≤ (x0_1.size : Int)
        · rw [if_pos c4] at H
          have c4b0 := eq_true c4
          (try (have c4n := c4; simp [size_lit] at c4n))
          have c4b1 : decide (t104 ≤ (x0_1.size : Int)) = true := decide_eq_true c4
          clear c4
          replace H := Option.bind_eq_some_iff.mp H
          obtain ⟨t105, A50, H⟩ := H
          replace H : (if t105 = true then ((strings_IndexByte.f (x0_1.extract (t104 : Int).toNat x0_1.size) 10).bind fun t106 => (if t106 < 0 then (some (a0.size : Int)) else (if 0 ≤ t106 then (if t106 ≤ ((x0_1.extract (t104 : Int).toNat x0_1.size).size : Int) then (lex_space.l0 k1 ((x0_1.extract (t104 : Int).toNat x0_1.size).extract (t106 : Int).toNat (x0_1.extract (t104 : Int).toNat x0_1.size).size) (a0.size : Int)) else (none)) else (none)))) else (some (wrap64 ((a0.size : Int) - ((x0_1.extract (t104 : Int).toNat x0_1.size).size : Int))))) = some r := H
          have A5 := Aside0.mk A50
          clear A50
          by_cases c6 : t105 = true
          · subst c6
            have H1 : ((strings_IndexByte.f (x0_1.extract (t104 : Int).toNat x0_1.size) 10).bind fun t106 => (if t106 < 0 then (some (a0.size : Int)) else (if 0 ≤ t106 then (if t106 ≤ ((x0_1.extract (t104 : Int).toNat x0_1.size).size : Int) then (lex_space.l0 k1 ((x0_1.extract (t104 : Int).toNat x0_1.size).extract (t106 : Int).toNat (x0_1.extract (t104 : Int).toNat x0_1.size).size) (a0.size : Int)) else (none)) else (none)))) = some r := by rw [if_pos rfl] at H; exact H
            clear H
            have H := H1
            clear H1
            replace H := Option.bind_eq_some_iff.mp H
            obtain ⟨t106, A70, H⟩ := H
            replace H : (if t106 < 0 then (some (a0.size : Int)) else (if 0 ≤ t106 then (if t106 ≤ ((x0_1.extract (t104 : Int).toNat x0_1.size).size : Int) then (lex_space.l0 k1 ((x0_1.extract (t104 : Int).toNat x0_1.size).extract (t106 : Int).toNat (x0_1.extract (t104 : Int).toNat x0_1.size).size) (a0.size : Int)) else (none)) else (none))) = some r := H
            have A7 := Aside0.mk A70
            clear A70
            by_cases c8 : t106 < 0
            · rw [if_pos c8] at H
              have c8b0 : decide (t106 < 0) = true := decide_eq_true c8
              clear c8
              obtain rfl := Option.some.inj H
              go_wp2_with (first | ((with_reducible refine gate_callee (f := 28) rfl ?_); refine goesL_ (some 9) rfl rfl Try.func28 (by kernel_rfl) rfl #[.string x0_1, .string (⟨#[9, 10, 13, 32]⟩ : ByteArray)] rfl (by (try simp only [List.map_toArray, List.map_cons, List.map_nil]); first | done | rfl | (simp only [List.length_drop, List.length_take]; rfl)) ?_; (with_reducible refine (lex_run.calls k1 x0_1 (⟨#[9, 10, 13, 32]⟩ : ByteArray) t104 _ A2.out).mono ?_); rintro e w' ⟨rfl, ⟨nd, rfl⟩⟩; refine ⟨_, rfl, ?_⟩) | ((with_reducible refine gate_callee (f := 29) rfl ?_); refine goesL_ (some 12) rfl rfl Try.func29 (by kernel_rfl) rfl #[.string (x0_1.extract (t104 : Int).toNat x0_1.size), .string (⟨#[45, 45]⟩ : ByteArray)] rfl (by (try simp only [List.map_toArray, List.map_cons, List.map_nil]); first | done | rfl | (simp only [List.length_drop, List.length_take]; rfl)) ?_; (with_reducible refine (strings_HasPrefix.calls (x0_1.extract (t104 : Int).toNat x0_1.size) (⟨#[45, 45]⟩ : ByteArray) true _ A5.out).mono ?_); rintro e w' ⟨rfl, ⟨nd, rfl⟩⟩; refine ⟨_, rfl, ?_⟩) | ((with_reducible refine gate_callee (f := 30) rfl ?_); refine goesL_ (some 19) rfl rfl Try.func30 (by kernel_rfl) rfl #[.string (x0_1.extract (t104 : Int).toNat x0_1.size), .int .u8 10] rfl (by (try simp only [List.map_toArray, List.map_cons, List.map_nil]); first | done | rfl | (simp only [List.length_drop, List.length_take]; rfl)) ?_; (with_reducible refine (strings_IndexByte.calls (x0_1.extract (t104 : Int).toNat x0_1.size) 10 t106 _ A7.out).mono ?_); rintro e w' ⟨rfl, ⟨nd, rfl⟩⟩; refine ⟨_, rfl, ?_⟩))
              go_ret
              exact ⟨by first | rfl | (simp; done) | (simp [*]; done), by repeat (first | exact Drawn0.refl _ | apply Drawn0.step)⟩
            · rw [if_neg c8] at H
              have c8b0 : decide (t106 < 0) = false := decide_eq_false c8
              clear c8
              by_cases c9 : 0 ≤ t106
              · rw [if_pos c9] at H
                have c9b0 := eq_true c9
                (try (have c9n := c9; simp [size_lit] at c9n))
                have c9b1 : decide (0 ≤ t106) = true := decide_eq_true c9
                clear c9
                by_cases c10 : t106 ≤ ((x0_1.extract (t104 : Int).toNat x0_1.size).size : Int)
                · rw [if_pos c10] at H
                  have c10b0 := eq_true c10
                  (try (have c10n := c10; simp [size_lit] at c10n))
                  have c10b1 : decide (t106 ≤ ((x0_1.extract (t104 : Int).toNat x0_1.size).size : Int)) = true := decide_eq_true c10
                  clear c10
                  have H' := Aside0.mk H
                  clear H
                  go_wp2_with (first | ((with_reducible refine gate_callee (f := 28) rfl ?_); refine goesL_ (some 9) rfl rfl Try.func28 (by kernel_rfl) rfl #[.string x0_1, .string (⟨#[9, 10, 13, 32]⟩ : ByteArray)] rfl (by (try simp only [List.map_toArray, List.map_cons, List.map_nil]); first | done | rfl | (simp only [List.length_drop, List.length_take]; rfl)) ?_; (with_reducible refine (lex_run.calls k1 x0_1 (⟨#[9, 10, 13, 32]⟩ : ByteArray) t104 _ A2.out).mono ?_); rintro e w' ⟨rfl, ⟨nd, rfl⟩⟩; refine ⟨_, rfl, ?_⟩) | ((with_reducible refine gate_callee (f := 29) rfl ?_); refine goesL_ (some 12) rfl rfl Try.func29 (by kernel_rfl) rfl #[.string (x0_1.extract (t104 : Int).toNat x0_1.size), .string (⟨#[45, 45]⟩ : ByteArray)] rfl (by (try simp only [List.map_toArray, List.map_cons, List.map_nil]); first | done | rfl | (simp only [List.length_drop, List.length_take]; rfl)) ?_; (with_reducible refine (strings_HasPrefix.calls (x0_1.extract (t104 : Int).toNat x0_1.size) (⟨#[45, 45]⟩ : ByteArray) true _ A5.out).mono ?_); rintro e w' ⟨rfl, ⟨nd, rfl⟩⟩; refine ⟨_, rfl, ?_⟩) | ((with_reducible refine gate_callee (f := 30) rfl ?_); refine goesL_ (some 19) rfl rfl Try.func30 (by kernel_rfl) rfl #[.string (x0_1.extract (t104 : Int).toNat x0_1.size), .int .u8 10] rfl (by (try simp only [List.map_toArray, List.map_cons, List.map_nil]); first | done | rfl | (simp only [List.length_drop, List.length_take]; rfl)) ?_; (with_reducible refine (strings_IndexByte.calls (x0_1.extract (t104 : Int).toNat x0_1.size) 10 t106 _ A7.out).mono ?_); rintro e w' ⟨rfl, ⟨nd, rfl⟩⟩; refine ⟨_, rfl, ?_⟩))
                  go_roundg k1
                  case measure => have := HK1.out; omega
                  case rel => exact ⟨((x0_1.extract (t104 : Int).toNat x0_1.size).extract (t106 : Int).toNat (x0_1.extract (t104 : Int).toNat x0_1.size).size), (by first | rfl | (simp; done) | (simp [*]; done)), H', ⟨by have := HK1.out; omega⟩, by repeat (first | exact Drawn0.refl _ | apply Drawn0.step)⟩
                · rw [if_neg c10] at H
                  exact absurd H (by simp)
              · rw [if_neg c9] at H
                exact absurd H (by simp)
          · replace c6 := Bool.eq_false_iff.mpr c6
            subst c6
            have H1 : (some (wrap64 ((a0.size : Int) - ((x0_1.extract (t104 : Int).toNat x0_1.size).size : Int)))) = some r := by rw [if_neg (show ¬ (false = true) by decide)] at H; exact H
            clear H
            have H := H1
            clear H1
            obtain rfl := Option.some.inj H
            go_wp2_with (first | ((with_reducible refine gate_callee (f := 28) rfl ?_); refine goesL_ (some 9) rfl rfl Try.func28 (by kernel_rfl) rfl #[.string x0_1, .string (⟨#[9, 10, 13, 32]⟩ : ByteArray)] rfl (by (try simp only [List.map_toArray, List.map_cons, List.map_nil]); first | done | rfl | (simp only [List.length_drop, List.length_take]; rfl)) ?_; (with_reducible refine (lex_run.calls k1 x0_1 (⟨#[9, 10, 13, 32]⟩ : ByteArray) t104 _ A2.out).mono ?_); rintro e w' ⟨rfl, ⟨nd, rfl⟩⟩; refine ⟨_, rfl, ?_⟩) | ((with_reducible refine gate_callee (f := 29) rfl ?_); refine goesL_ (some 12) rfl rfl Try.func29 (by kernel_rfl) rfl #[.string (x0_1.extract (t104 : Int).toNat x0_1.size), .string (⟨#[45, 45]⟩ : ByteArray)] rfl (by (try simp only [List.map_toArray, List.map_cons, List.map_nil]); first | done | rfl | (simp only [List.length_drop, List.length_take]; rfl)) ?_; (with_reducible refine (strings_HasPrefix.calls (x0_1.extract (t104 : Int).toNat x0_1.size) (⟨#[45, 45]⟩ : ByteArray) false _ A5.out).mono ?_); rintro e w' ⟨rfl, ⟨nd, rfl⟩⟩; refine ⟨_, rfl, ?_⟩))
            go_ret
            exact ⟨by first | rfl | (simp; done) | (simp [*]; done), by repeat (first | exact Drawn0.refl _ | apply Drawn0.step)⟩
        · rw [if_neg c4] at H
          exact absurd H (by simp)
      · rw [if_neg c3] at H
        exact absurd H (by simp)

/-! ### lex_small: function 32, by hand -/
/-- a letter made small -/
def lex_small.low (c : UInt8) : UInt8 := if 65 ≤ c.toNat ∧ c.toNat ≤ 90 then c + 32 else c
def lex_small.f (a0 : ByteArray) : Option (ByteArray) := if a0.size ≤ 140737488351232 then some ⟨(a0.data.toList.map lex_small.low).toArray⟩ else none
/-- the copy after k rounds -/
structure lex_small.At (w : World) (s : ByteArray) (k : Nat) (wr : World) : Prop where
  below : Below w.heap.size w wr
  cells : ∀ j, j < s.size → wr.cell? ⟨w.heap.size, j, none⟩ = some (.int .u8 ((if j < k then lex_small.low (s.data.toList.getD j 0) else s.data.toList.getD j 0).toNat : Int))
  free : ∀ j, j < s.size → wr.frozen? ⟨w.heap.size, j, none⟩ = false
theorem lex_small.start (w : World) (s : ByteArray) (e : TypeId) : lex_small.At w s 0 (Lib.bytesWorld w e s) where
  below := ⟨rfl, rfl, rfl, by rw [Lib.bytesWorld_size]; omega, fun k hk => Lib.bytesWorld_at_old w e s k hk⟩
  cells := fun j hj => by rw [if_neg (by omega)]; exact Lib.bytesWorld_cell w e s j hj
  free := fun j hj => by
    have h := Lib.bytesWorld_at_new w e s
    have hl : s.size ≤ (Lib.bytesCells w e s).size := by
      have e1 : s.data.size = s.size := rfl
      unfold Lib.bytesCells
      rw [Array.size_append, Array.size_map, e1]
      omega
    simp only [World.frozen?, h]
    simp
    omega
theorem lex_small.keep {w wr : World} {s : ByteArray} {j : Nat} (h : lex_small.At w s j wr) (hl : lex_small.low (s.data.toList.getD j 0) = s.data.toList.getD j 0) : lex_small.At w s (j + 1) wr where
  below := h.below
  cells := fun i hi => by
    rw [h.cells i hi]
    by_cases c : i < j
    · rw [if_pos c, if_pos (by omega)]
    · rw [if_neg c]
      by_cases d : i = j
      · subst d; rw [if_pos (by omega), hl]
      · rw [if_neg (by omega)]
  free := h.free
theorem lex_small.turn {w wr : World} {s : ByteArray} {j : Nat} (h : lex_small.At w s j wr) (hj : j < s.size) (x : Int) (hl : x = ((lex_small.low (s.data.toList.getD j 0)).toNat : Int)) : lex_small.At w s (j + 1) (wr.setCell ⟨w.heap.size, j, none⟩ (.int .u8 x)) where
  below := h.below.setCell (Nat.le_refl _) _
  cells := fun i hi => by
    by_cases d : i = j
    · subst d
      rw [if_pos (by omega), World.cell?_setCell_same _ _ _ (h.cells i hi), hl]
    · rw [World.cell?_setCell_other _ _ _ _ (by intro e; exact d (by injection e with _ e _; exact e.symm)), h.cells i hi]
      by_cases c : i < j
      · rw [if_pos c, if_pos (by omega)]
      · rw [if_neg c, if_neg (by omega)]
  free := fun i hi => by rw [World.frozen?_setCell]; exact h.free i hi
set_option maxHeartbeats 8000000 in
set_option maxRecDepth 100000 in
theorem lex_small.calls (a0 : ByteArray) (r : ByteArray) (w : World) (h : lex_small.f a0 = some r) :
    Calls Try.prog 32 #[.string a0] w fun e w' => e = .returned (.string r) ∧ Below w.heap.size w w' := by
  unfold lex_small.f at h
  by_cases hs : a0.size ≤ 140737488351232
  · rw [if_pos hs] at h
    obtain rfl := Option.some.inj h
    clear h
    have hcv := fun W : World => Lib.run_convert_string_bytes (P := Try.prog) W 9 58 5 a0 Try.underlying9 Try.underlying58 Try.underlying5
    have HS0 := Aside0.mk (lex_small.start w a0 5)
    go_enter Try.func32, Try.ntmps32
    go_wp2
    go_loopg [10] a0.size (fun kq v10 wr => ∃ (j : Nat), v10 = .int .i64 (j : Int) ∧ Aside0 (j + kq = a0.size) ∧ Aside0 (lex_small.At w a0 j wr))
    case atStart => exact ⟨0, rfl, ⟨by omega⟩, HS0⟩
    case round =>
      clear HS0 hcv
      obtain ⟨j, rfl, HJ, HS⟩ := hrel
      cases gk with
      | zero =>
        have hj : j = a0.size := by have := HJ.out; omega
        subst hj
        have c1 : decide ((a0.size : Int) < (a0.size : Int)) = false := decide_eq_false (by omega)
        have hcb := run_convert_bytes_arg (P := Try.prog) wr 58 5 Try.underlying58 Try.underlying5 w.heap.size 0 a0.size (grownCap w a0.size 0 5) ((a0.data.toList.map lex_small.low).map fun c => (c.toNat : Int)) (by rw [List.length_map, List.length_map]; exact Array.length_toList) (by
          intro i hi
          rw [Nat.zero_add, HS.out.cells i hi, if_pos hi]
          have hl : i < a0.data.toList.length := by rw [Array.length_toList]; exact hi
          simp [List.getD, hl, hi]) 9 Try.underlying9
        rw [show strOfNums ((a0.data.toList.map lex_small.low).map fun c => (c.toNat : Int)) = ⟨(a0.data.toList.map lex_small.low).toArray⟩ from by simp [strOfNums, Function.comp_def]] at hcb
        go_wp2
        go_ret
        exact ⟨rfl, HS.out.below⟩
      | succ k1 =>
        have hlt : j < a0.size := by have := HJ.out; omega
        have c1 : decide ((j : Int) < (a0.size : Int)) = true := decide_eq_true (by omega)
        have hc := HS.out.cells j hlt
        rw [if_neg (by omega)] at hc
        have hf := HS.out.free j hlt
        obtain ⟨c, hcc⟩ : ∃ c, c = a0.data.toList.getD j 0 := ⟨_, rfl⟩
        rw [← hcc] at hc
        obtain ⟨v, hv⟩ : ∃ v : Int, v = (c.toNat : Int) := ⟨_, rfl⟩
        rw [← hv] at hc
        have v0 : 0 ≤ v := by omega
        have v1 : v ≤ 255 := by have := UInt8.toNat_lt c; omega
        by_cases g1 : 65 ≤ v
        · have b1 : decide (65 ≤ v) = true := decide_eq_true g1
          by_cases g2 : v ≤ 90
          · have b2 : decide (v ≤ 90) = true := decide_eq_true g2
            have HT := Aside0.mk (lex_small.turn HS.out hlt (v + 32) (by
              rw [← hcc]; unfold lex_small.low; rw [if_pos (by omega), UInt8.toNat_add]; simp; omega))
            have HV := Aside0.mk hv
            have HCC := Aside0.mk hcc
            clear hv hcc
            go_wp2
            go_roundg k1
            case measure => have := HJ.out; omega
            case rel => exact ⟨j + 1, (by first | rfl | (simp; done)), ⟨by have := HJ.out; omega⟩, HT⟩
          · have b2 : decide (v ≤ 90) = false := decide_eq_false g2
            have HT := Aside0.mk (lex_small.keep HS.out (by rw [← hcc]; unfold lex_small.low; rw [if_neg (by omega)]))
            have HV := Aside0.mk hv
            have HCC := Aside0.mk hcc
            clear hv hcc
            go_wp2
            go_roundg k1
            case measure => have := HJ.out; omega
            case rel => exact ⟨j + 1, (by first | rfl | (simp; done)), ⟨by have := HJ.out; omega⟩, HT⟩
        · have b1 : decide (65 ≤ v) = false := decide_eq_false g1
          have HT := Aside0.mk (lex_small.keep HS.out (by rw [← hcc]; unfold lex_small.low; rw [if_neg (by omega)]))
          have HV := Aside0.mk hv
          have HCC := Aside0.mk hcc
          clear hv hcc
          go_wp2
          go_roundg k1
          case measure => have := HJ.out; omega
          case rel => exact ⟨j + 1, (by first | rfl | (simp; done)), ⟨by have := HJ.out; omega⟩, HT⟩
  · rw [if_neg hs] at h; exact absurd h (by simp)


end Go.Proofs.Ytmpamcfeijnafaa.R
