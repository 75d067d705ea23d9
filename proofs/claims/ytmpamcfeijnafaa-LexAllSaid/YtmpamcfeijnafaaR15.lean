/- PRINTED BY A PROGRAM OF THIS SESSION (px.py, over the kit's print): Lean functions with the answers of Go functions of the given program, and proofs that the Go code comes to these answers; each under the conditions that its theorem states. -/
import Derived.Test.YtmpamcfeijnafaaR0
import Derived.Test.YtmpamcfeijnafaaR1
import Derived.Test.YtmpamcfeijnafaaR6
import Derived.Test.YtmpamcfeijnafaaR14
namespace Go.Proofs.Ytmpamcfeijnafaa.R
open Go.RowKit Go.Proofs.YtmpamcfeijnafaaW.PrintWords Go.Proofs.YtmpamcfeijnafaaW.PrintLast Go.Proofs.YtmpamcfeijnafaaW.PrintMore
attribute [local go_sem] max2_int min2_int max_two min_two max_three min_three max_four min_four   -- for this text's walks alone
set_option linter.unusedVariables false
set_option linter.unusedSimpArgs false

attribute [local go_sem high] eqA29
/-! ### colonnaderef16_Tokens: function 6 -/
def colonnaderef16_Tokens.f (k : Nat) (a0 : ByteArray) : Option ((List (S29)) × Int × Int) := if (a0.size : Int) > 65536 then (some (([] : List (S29)), 0, 3)) else ((colonnaderef16_Known.f k a0).bind fun bt196 => (if bt196.2.2 = true then (some (bt196.1, 0, 0)) else (some (([] : List (S29)), bt196.2.1, 160))))
theorem colonnaderef16_Tokens.mono : ∀ a0 k, LeO (colonnaderef16_Tokens.f k a0) (colonnaderef16_Tokens.f (k + 1) a0) := by
  intro a0 k
  unfold colonnaderef16_Tokens.f
  repeat' first
      | (with_reducible exact colonnaderef16_Known.mono _ _)
      | (with_reducible exact LeO.refl _)
      | (with_reducible exact LeO.none _)
      | (with_reducible refine LeO.ite ?_ ?_)
      | (with_reducible refine LeO.bind ?_ (fun _ => ?_))
      | exact colonnaderef16_Known.mono _ _
      | exact LeO.none _
      | refine LeO.ite ?_ ?_
      | refine LeO.bind ?_ (fun _ => ?_)
set_option maxHeartbeats 8000000 in
set_option maxRecDepth 100000 in
theorem colonnaderef16_Tokens.calls (k : Nat) (a0 : ByteArray) (r1 : List (S29)) (r2 : Int) (r3 : Int) (w : World) (h : colonnaderef16_Tokens.f k a0 = some (r1, r2, r3)) :
    Calls Try.prog 6 #[.string a0] w fun e w' => ∃ v0_ : Value, e = .returned (.tuple #[v0_, .int .i64 r2, .int .i64 r3]) ∧ Kd.R k29 29 w' w.heap.size (fun _ => True) v0_ r1 ∧ Below w.heap.size w w' := by
  have HB := Aside0.mk (Below.refl w.heap.size w)
  have H : (if (a0.size : Int) > 65536 then (some (([] : List (S29)), 0, 3)) else ((colonnaderef16_Known.f k a0).bind fun bt196 => (if bt196.2.2 = true then (some (bt196.1, 0, 0)) else (some (([] : List (S29)), bt196.2.1, 160))))) = some (r1, r2, r3) := h
  clear h
  by_cases c2 : (a0.size : Int) > 65536
  · rw [if_pos c2] at H
    have c2b0 : decide (65536 < (a0.size : Int)) = true := decide_eq_true c2
    have c2b1 : decide (65536 < a0.size) = true := decide_eq_true (by omega)
    clear c2
    simp only [Option.some.injEq, Prod.mk.injEq] at H
    obtain ⟨rfl, rfl, rfl⟩ := H
    go_enter Try.func6, Try.ntmps6
    go_wp2
    go_ret3
    exact ⟨_, by first | rfl | (simp [errW_none, errW_some] <;> rfl) | (simp [*, errW_none, errW_some] <;> rfl), by first | exact Kd.R_nil _ _ _ _ _ | exact Kd.N_nil _ _ _ _ _ | exact Kd.V_nil _ _ _ _ _ | exact Kd.Q_nil _ _ _ _ _ | exact Kd.S_nil _ _ _ _ _, by repeat (first | (with_reducible first | exact HB.out | apply below_alloc | apply pw_below_drewN | apply below_drew1) | exact HB.out)⟩
  · rw [if_neg c2] at H
    have c2b0 : decide (65536 < (a0.size : Int)) = false := decide_eq_false c2
    have c2b1 : decide (65536 < a0.size) = false := decide_eq_false (by omega)
    clear c2
    replace H := Option.bind_eq_some_iff.mp H
    obtain ⟨⟨t196, t197, t198⟩, A30, H⟩ := H
    replace H : (if t198 = true then (some (t196, 0, 0)) else (some (([] : List (S29)), t197, 160))) = some (r1, r2, r3) := H
    have A3 := Aside0.mk A30
    clear A30
    by_cases c4 : t198 = true
    · subst c4
      have H1 : (some (t196, 0, 0)) = some (r1, r2, r3) := by rw [if_pos rfl] at H; exact H
      clear H
      have H := H1
      clear H1
      simp only [Option.some.injEq, Prod.mk.injEq] at H
      obtain ⟨rfl, rfl, rfl⟩ := H
      go_enter Try.func6, Try.ntmps6
      go_wp2_with (first | ((with_reducible refine gate_callee (f := 9) rfl ?_); refine goesL_ (some 13) rfl rfl Try.func9 (by kernel_rfl) rfl #[.string a0] rfl (by (try simp only [List.map_toArray, List.map_cons, List.map_nil]); first | done | rfl | (simp only [List.length_drop, List.length_take]; rfl)) ?_; (with_reducible refine (colonnaderef16_Known.calls k a0 t196 t197 true _ A3.out).mono ?_); rintro e w5 ⟨v199, rfl, ho0, hb⟩; refine ⟨_, rfl, ?_⟩; have n0_ := Aside0.mk (Kd.R_lower ho0 (below_size (by repeat (first | (with_reducible first | exact HB.out | apply below_alloc | apply pw_below_drewN | apply below_drew1) | exact HB.out)))); have n1_ := Aside0.mk (below_step (by repeat (first | (with_reducible first | exact HB.out | apply below_alloc | apply pw_below_drewN | apply below_drew1) | exact HB.out)) hb); clear HB; have HO200 := n0_; have HB := n1_; clear n0_ n1_; (try clear hb); (try clear hb2); (try clear hk); (try clear hi); (try clear ho0)))
      go_ret3
      exact ⟨_, by first | rfl | (simp [errW_none, errW_some] <;> rfl) | (simp [*, errW_none, errW_some] <;> rfl), by (with_reducible repeat (first | apply Kd.R_alloc | apply Kd.R_drewN | apply Kd.R_drew)); exact HO200.out, by repeat (first | (with_reducible first | exact HB.out | apply below_alloc | apply pw_below_drewN | apply below_drew1) | exact HB.out)⟩
    · replace c4 := Bool.eq_false_iff.mpr c4
      subst c4
      have H1 : (some (([] : List (S29)), t197, 160)) = some (r1, r2, r3) := by rw [if_neg (show ¬ (false = true) by decide)] at H; exact H
      clear H
      have H := H1
      clear H1
      simp only [Option.some.injEq, Prod.mk.injEq] at H
      obtain ⟨rfl, rfl, rfl⟩ := H
      go_enter Try.func6, Try.ntmps6
      go_wp2_with (first | ((with_reducible refine gate_callee (f := 9) rfl ?_); refine goesL_ (some 13) rfl rfl Try.func9 (by kernel_rfl) rfl #[.string a0] rfl (by (try simp only [List.map_toArray, List.map_cons, List.map_nil]); first | done | rfl | (simp only [List.length_drop, List.length_take]; rfl)) ?_; (with_reducible refine (colonnaderef16_Known.calls k a0 t196 t197 false _ A3.out).mono ?_); rintro e w6 ⟨v199, rfl, ho0, hb⟩; refine ⟨_, rfl, ?_⟩; have n0_ := Aside0.mk (Kd.R_lower ho0 (below_size (by repeat (first | (with_reducible first | exact HB.out | apply below_alloc | apply pw_below_drewN | apply below_drew1) | exact HB.out)))); have n1_ := Aside0.mk (below_step (by repeat (first | (with_reducible first | exact HB.out | apply below_alloc | apply pw_below_drewN | apply below_drew1) | exact HB.out)) hb); clear HB; have HO200 := n0_; have HB := n1_; clear n0_ n1_; (try clear hb); (try clear hb2); (try clear hk); (try clear hi); (try clear ho0)))
      go_ret3
      exact ⟨_, by first | rfl | (simp [errW_none, errW_some] <;> rfl) | (simp [*, errW_none, errW_some] <;> rfl), by first | exact Kd.R_nil _ _ _ _ _ | exact Kd.N_nil _ _ _ _ _ | exact Kd.V_nil _ _ _ _ _ | exact Kd.Q_nil _ _ _ _ _ | exact Kd.S_nil _ _ _ _ _, by repeat (first | (with_reducible first | exact HB.out | apply below_alloc | apply pw_below_drewN | apply below_drew1) | exact HB.out)⟩

/-! ### colonnadelaw16_begun: function 7 -/
def colonnadelaw16_begun.f (k : Nat)  : Option (Bool) := (lex_Tokens.f k (⟨#[65, 60, 62, 49, 46, 53]⟩ : ByteArray)).bind fun bt201 => (if bt201.2.2 = 0 then (if (bt201.1.length : Int) = 3 then (if 0 < (bt201.1.length : Int) then (if (((rd_T29 bt201.1 0).f0) == 1 && ((((rd_T29 bt201.1 0).f1).toList) == ([97] : List UInt8) && (((rd_T29 bt201.1 0).f2) == 0))) = true then (if 1 < (bt201.1.length : Int) then (if (((rd_T29 bt201.1 1).f0) == 4 && ((((rd_T29 bt201.1 1).f1).toList) == ([60, 62] : List UInt8) && (((rd_T29 bt201.1 1).f2) == 1))) = true then (if 2 < (bt201.1.length : Int) then (some (((rd_T29 bt201.1 2).f0) == 2 && ((((rd_T29 bt201.1 2).f1).toList) == ([49, 46, 53] : List UInt8) && (((rd_T29 bt201.1 2).f2) == 3)))) else (none)) else (some false)) else (none)) else (some false)) else (none)) else (some false)) else (some false))
theorem colonnadelaw16_begun.mono : ∀ k, LeO (colonnadelaw16_begun.f k ) (colonnadelaw16_begun.f (k + 1) ) := by
  intro  k
  unfold colonnadelaw16_begun.f
  repeat' first
      | (with_reducible exact lex_Tokens.mono _ _)
      | (with_reducible exact LeO.refl _)
      | (with_reducible exact LeO.none _)
      | (with_reducible refine LeO.ite ?_ ?_)
      | (with_reducible refine LeO.bind ?_ (fun _ => ?_))
      | exact lex_Tokens.mono _ _
      | exact LeO.none _
      | refine LeO.ite ?_ ?_
      | refine LeO.bind ?_ (fun _ => ?_)
set_option maxHeartbeats 8000000 in
set_option maxRecDepth 100000 in
theorem colonnadelaw16_begun.calls (k : Nat)  (r : Bool) (w : World) (h : colonnadelaw16_begun.f k  = some r) :
    Calls Try.prog 7 #[] w fun e w' => e = .returned (.bool r) ∧ Below w.heap.size w w' := by
  have hu29 := Try.underlying29
  have HB := Aside0.mk (Below.refl w.heap.size w)
  have H : ((lex_Tokens.f k (⟨#[65, 60, 62, 49, 46, 53]⟩ : ByteArray)).bind fun bt201 => (if bt201.2.2 = 0 then (if (bt201.1.length : Int) = 3 then (if 0 < (bt201.1.length : Int) then (if (((rd_T29 bt201.1 0).f0) == 1 && ((((rd_T29 bt201.1 0).f1).toList) == ([97] : List UInt8) && (((rd_T29 bt201.1 0).f2) == 0))) = true then (if 1 < (bt201.1.length : Int) then (if (((rd_T29 bt201.1 1).f0) == 4 && ((((rd_T29 bt201.1 1).f1).toList) == ([60, 62] : List UInt8) && (((rd_T29 bt201.1 1).f2) == 1))) = true then (if 2 < (bt201.1.length : Int) then (some (((rd_T29 bt201.1 2).f0) == 2 && ((((rd_T29 bt201.1 2).f1).toList) == ([49, 46, 53] : List UInt8) && (((rd_T29 bt201.1 2).f2) == 3)))) else (none)) else (some false)) else (none)) else (some false)) else (none)) else (some false)) else (some false))) = some r := h
  clear h
  replace H := Option.bind_eq_some_iff.mp H
  obtain ⟨⟨t201, t202, t203⟩, A10, H⟩ := H
  replace H : (if t203 = 0 then (if (t201.length : Int) = 3 then (if 0 < (t201.length : Int) then (if (((rd_T29 t201 0).f0) == 1 && ((((rd_T29 t201 0).f1).toList) == ([97] : List UInt8) && (((rd_T29 t201 0).f2) == 0))) = true then (if 1 < (t201.length : Int) then (if (((rd_T29 t201 1).f0) == 4 && ((((rd_T29 t201 1).f1).toList) == ([60, 62] : List UInt8) && (((rd_T29 t201 1).f2) == 1))) = true then (if 2 < (t201.length : Int) then (some (((rd_T29 t201 2).f0) == 2 && ((((rd_T29 t201 2).f1).toList) == ([49, 46, 53] : List UInt8) && (((rd_T29 t201 2).f2) == 3)))) else (none)) else (some false)) else (none)) else (some false)) else (none)) else (some false)) else (some false)) = some r := H
  have A1 := Aside0.mk A10
  clear A10
  by_cases c2 : t203 = 0
  · rw [if_pos c2] at H
    have c2b0 : (t203 == 0) = true := beq_iff_eq.mpr c2
    have c2b1 : (t203 != 0) = false := bne_eq_false_iff_eq.mpr c2
    clear c2
    by_cases c3 : (t201.length : Int) = 3
    · rw [if_pos c3] at H
      have c3b0 : ((t201.length : Int) == 3) = true := beq_iff_eq.mpr c3
      have c3b1 : ((t201.length : Int) != 3) = false := bne_eq_false_iff_eq.mpr c3
      clear c3
      by_cases c4 : 0 < (t201.length : Int)
      · rw [if_pos c4] at H
        have c4b0 : decide (0 < (t201.length : Int)) = true := decide_eq_true c4
        have c4b1 : decide (0 < t201.length) = true := decide_eq_true (by omega)
        clear c4
        by_cases c5 : (((rd_T29 t201 0).f0) == 1 && ((((rd_T29 t201 0).f1).toList) == ([97] : List UInt8) && (((rd_T29 t201 0).f2) == 0))) = true
        · rw [if_pos c5] at H
          have c5b0 : (((rd_T29 t201 0).f0) == 1 && ((((rd_T29 t201 0).f1).toList) == ([97] : List UInt8) && (((rd_T29 t201 0).f2) == 0))) = true := c5
          (try (have c5b1 : decide (((rd_T29 t201 0).f0) = 1 && ((((rd_T29 t201 0).f1).toList) == ([97] : List UInt8) && (((rd_T29 t201 0).f2) == 0))) = true := by simpa using c5))
          (try (have c5b2 : (((rd_T29 t201 0).f0) == 1 && ((((rd_T29 t201 0).f1).toList) == ([97] : List UInt8) && (((rd_T29 t201 0).f2) == 0))) = true := by simpa using c5))
          clear c5
          by_cases c6 : 1 < (t201.length : Int)
          · rw [if_pos c6] at H
            have c6b0 : decide (1 < (t201.length : Int)) = true := decide_eq_true c6
            have c6b1 : decide (1 < t201.length) = true := decide_eq_true (by omega)
            clear c6
            by_cases c7 : (((rd_T29 t201 1).f0) == 4 && ((((rd_T29 t201 1).f1).toList) == ([60, 62] : List UInt8) && (((rd_T29 t201 1).f2) == 1))) = true
            · rw [if_pos c7] at H
              have c7b0 : (((rd_T29 t201 1).f0) == 4 && ((((rd_T29 t201 1).f1).toList) == ([60, 62] : List UInt8) && (((rd_T29 t201 1).f2) == 1))) = true := c7
              (try (have c7b1 : decide (((rd_T29 t201 1).f0) = 4 && ((((rd_T29 t201 1).f1).toList) == ([60, 62] : List UInt8) && (((rd_T29 t201 1).f2) == 1))) = true := by simpa using c7))
              (try (have c7b2 : (((rd_T29 t201 1).f0) == 4 && ((((rd_T29 t201 1).f1).toList) == ([60, 62] : List UInt8) && (((rd_T29 t201 1).f2) == 1))) = true := by simpa using c7))
              clear c7
              by_cases c8 : 2 < (t201.length : Int)
              · rw [if_pos c8] at H
                have c8b0 : decide (2 < (t201.length : Int)) = true := decide_eq_true c8
                have c8b1 : decide (2 < t201.length) = true := decide_eq_true (by omega)
                clear c8
                obtain rfl := Option.some.inj H
                go_enter Try.func7, Try.ntmps7
                go_wp2_with (first | ((with_reducible refine gate_callee (f := 5) rfl ?_); refine goesL_ (some 5) rfl rfl Try.func5 (by kernel_rfl) rfl #[.string (⟨#[65, 60, 62, 49, 46, 53]⟩ : ByteArray)] rfl (by (try simp only [List.map_toArray, List.map_cons, List.map_nil]); first | done | rfl | (simp only [List.length_drop, List.length_take]; rfl)) ?_; (with_reducible refine (lex_Tokens.calls k (⟨#[65, 60, 62, 49, 46, 53]⟩ : ByteArray) t201 t202 t203 _ A1.out).mono ?_); rintro e w9 ⟨v204, rfl, ho0, hb⟩; refine ⟨_, rfl, ?_⟩; have n0_ := Aside0.mk (Kd.R_lower ho0 (below_size (by repeat (first | (with_reducible first | exact HB.out | apply below_alloc | apply pw_below_drewN | apply below_drew1) | exact HB.out)))); have n1_ := Aside0.mk (below_step (by repeat (first | (with_reducible first | exact HB.out | apply below_alloc | apply pw_below_drewN | apply below_drew1) | exact HB.out)) hb); clear HB; have HO205 := n0_; have HB := n1_; clear n0_ n1_; (try clear hb); (try clear hb2); (try clear hk); (try clear hi); (try clear ho0); obtain ⟨Ao10, co10, eo10⟩ := Kd.R_slice HO205.out; subst eo10; have p206 : 0 ≤ (0 : Int) := (by omega); have q206 : 0 < (t201.length : Int) := of_decide_eq_true (by first | (with_reducible assumption) | assumption); obtain ⟨ad206, e206, hx206_0, hx206_1, hx206_2⟩ := at_T29 (Kd.R_reads' HO205.out).2.2 0 p206 q206; cases e206; have qi206 : (0 < t201.length) = True := eq_true (by omega); (try rw [show ((0 : Int)).toNat = 0 from rfl] at hx206_0); (try rw [show 0 * 3 = 0 from rfl] at hx206_0); (try rw [Addr.add_zero'] at hx206_0); (try rw [show ((0 : Int)).toNat = 0 from rfl] at hx206_1); (try rw [show 0 * 3 = 0 from rfl] at hx206_1); (try rw [Addr.add_zero'] at hx206_1); (try rw [show ((0 : Int)).toNat = 0 from rfl] at hx206_2); (try rw [show 0 * 3 = 0 from rfl] at hx206_2); (try rw [Addr.add_zero'] at hx206_2); replace p206 := eq_true p206; replace q206 := eq_true q206; have p207 : 0 ≤ (1 : Int) := (by omega); have q207 : 1 < (t201.length : Int) := of_decide_eq_true (by first | (with_reducible assumption) | assumption); obtain ⟨ad207, e207, hx207_0, hx207_1, hx207_2⟩ := at_T29 (Kd.R_reads' HO205.out).2.2 1 p207 q207; obtain rfl : ad206 = ad207 := (by injection e207); (try simp only [show (1 : Int).toNat = 1 from rfl, Nat.reduceMul, Nat.reduceEqDiff, Go.Addr.add, ↓reduceIte] at hx207_0); (try simp only [show (1 : Int).toNat = 1 from rfl, Nat.reduceMul, Nat.reduceEqDiff, Go.Addr.add, ↓reduceIte] at hx207_1); (try simp only [show (1 : Int).toNat = 1 from rfl, Nat.reduceMul, Nat.reduceEqDiff, Go.Addr.add, ↓reduceIte] at hx207_2); have qi207 : (1 < t201.length) = True := eq_true (by omega); (try rw [show ((1 : Int)).toNat = 1 from rfl] at hx207_0); (try rw [show 1 * 3 = 3 from rfl] at hx207_0); (try rw [show ((1 : Int)).toNat = 1 from rfl] at hx207_1); (try rw [show 1 * 3 = 3 from rfl] at hx207_1); (try rw [show ((1 : Int)).toNat = 1 from rfl] at hx207_2); (try rw [show 1 * 3 = 3 from rfl] at hx207_2); replace p207 := eq_true p207; replace q207 := eq_true q207; have p208 : 0 ≤ (2 : Int) := (by omega); have q208 : 2 < (t201.length : Int) := of_decide_eq_true (by first | (with_reducible assumption) | assumption); obtain ⟨ad208, e208, hx208_0, hx208_1, hx208_2⟩ := at_T29 (Kd.R_reads' HO205.out).2.2 2 p208 q208; obtain rfl : ad206 = ad208 := (by injection e208); (try simp only [show (2 : Int).toNat = 2 from rfl, Nat.reduceMul, Nat.reduceEqDiff, Go.Addr.add, ↓reduceIte] at hx208_0); (try simp only [show (2 : Int).toNat = 2 from rfl, Nat.reduceMul, Nat.reduceEqDiff, Go.Addr.add, ↓reduceIte] at hx208_1); (try simp only [show (2 : Int).toNat = 2 from rfl, Nat.reduceMul, Nat.reduceEqDiff, Go.Addr.add, ↓reduceIte] at hx208_2); have qi208 : (2 < t201.length) = True := eq_true (by omega); (try rw [show ((2 : Int)).toNat = 2 from rfl] at hx208_0); (try rw [show 2 * 3 = 6 from rfl] at hx208_0); (try rw [show ((2 : Int)).toNat = 2 from rfl] at hx208_1); (try rw [show 2 * 3 = 6 from rfl] at hx208_1); (try rw [show ((2 : Int)).toNat = 2 from rfl] at hx208_2); (try rw [show 2 * 3 = 6 from rfl] at hx208_2); replace p208 := eq_true p208; replace q208 := eq_true q208))
                go_ret
                exact ⟨by first | rfl | (simp [errW_none, errW_some] <;> rfl) | (simp [*, errW_none, errW_some] <;> rfl), by repeat (first | (with_reducible first | exact HB.out | apply below_alloc | apply pw_below_drewN | apply below_drew1) | exact HB.out)⟩
              · rw [if_neg c8] at H
                exact absurd H (by simp)
            · rw [if_neg c7] at H
              have c7b0 : (((rd_T29 t201 1).f0) == 4 && ((((rd_T29 t201 1).f1).toList) == ([60, 62] : List UInt8) && (((rd_T29 t201 1).f2) == 1))) = false := by simpa using c7
              (try (have c7b1 : decide (((rd_T29 t201 1).f0) = 4 && ((((rd_T29 t201 1).f1).toList) == ([60, 62] : List UInt8) && (((rd_T29 t201 1).f2) == 1))) = false := by simpa using c7))
              (try (have c7b2 : (((rd_T29 t201 1).f0) == 4 && ((((rd_T29 t201 1).f1).toList) == ([60, 62] : List UInt8) && (((rd_T29 t201 1).f2) == 1))) = false := by simpa using c7))
              (try (have c7b3 : ¬ (((rd_T29 t201 1).f0) = 4 && ((((rd_T29 t201 1).f1).toList) == ([60, 62] : List UInt8) && (((rd_T29 t201 1).f2) == 1))) := by simpa using c7))
              clear c7
              obtain rfl := Option.some.inj H
              go_enter Try.func7, Try.ntmps7
              go_wp2_with (first | ((with_reducible refine gate_callee (f := 5) rfl ?_); refine goesL_ (some 5) rfl rfl Try.func5 (by kernel_rfl) rfl #[.string (⟨#[65, 60, 62, 49, 46, 53]⟩ : ByteArray)] rfl (by (try simp only [List.map_toArray, List.map_cons, List.map_nil]); first | done | rfl | (simp only [List.length_drop, List.length_take]; rfl)) ?_; (with_reducible refine (lex_Tokens.calls k (⟨#[65, 60, 62, 49, 46, 53]⟩ : ByteArray) t201 t202 t203 _ A1.out).mono ?_); rintro e w11 ⟨v204, rfl, ho0, hb⟩; refine ⟨_, rfl, ?_⟩; have n0_ := Aside0.mk (Kd.R_lower ho0 (below_size (by repeat (first | (with_reducible first | exact HB.out | apply below_alloc | apply pw_below_drewN | apply below_drew1) | exact HB.out)))); have n1_ := Aside0.mk (below_step (by repeat (first | (with_reducible first | exact HB.out | apply below_alloc | apply pw_below_drewN | apply below_drew1) | exact HB.out)) hb); clear HB; have HO205 := n0_; have HB := n1_; clear n0_ n1_; (try clear hb); (try clear hb2); (try clear hk); (try clear hi); (try clear ho0); obtain ⟨Ao12, co12, eo12⟩ := Kd.R_slice HO205.out; subst eo12; have p206 : 0 ≤ (0 : Int) := (by omega); have q206 : 0 < (t201.length : Int) := of_decide_eq_true (by first | (with_reducible assumption) | assumption); obtain ⟨ad206, e206, hx206_0, hx206_1, hx206_2⟩ := at_T29 (Kd.R_reads' HO205.out).2.2 0 p206 q206; cases e206; have qi206 : (0 < t201.length) = True := eq_true (by omega); (try rw [show ((0 : Int)).toNat = 0 from rfl] at hx206_0); (try rw [show 0 * 3 = 0 from rfl] at hx206_0); (try rw [Addr.add_zero'] at hx206_0); (try rw [show ((0 : Int)).toNat = 0 from rfl] at hx206_1); (try rw [show 0 * 3 = 0 from rfl] at hx206_1); (try rw [Addr.add_zero'] at hx206_1); (try rw [show ((0 : Int)).toNat = 0 from rfl] at hx206_2); (try rw [show 0 * 3 = 0 from rfl] at hx206_2); (try rw [Addr.add_zero'] at hx206_2); replace p206 := eq_true p206; replace q206 := eq_true q206; have p207 : 0 ≤ (1 : Int) := (by omega); have q207 : 1 < (t201.length : Int) := of_decide_eq_true (by first | (with_reducible assumption) | assumption); obtain ⟨ad207, e207, hx207_0, hx207_1, hx207_2⟩ := at_T29 (Kd.R_reads' HO205.out).2.2 1 p207 q207; obtain rfl : ad206 = ad207 := (by injection e207); (try simp only [show (1 : Int).toNat = 1 from rfl, Nat.reduceMul, Nat.reduceEqDiff, Go.Addr.add, ↓reduceIte] at hx207_0); (try simp only [show (1 : Int).toNat = 1 from rfl, Nat.reduceMul, Nat.reduceEqDiff, Go.Addr.add, ↓reduceIte] at hx207_1); (try simp only [show (1 : Int).toNat = 1 from rfl, Nat.reduceMul, Nat.reduceEqDiff, Go.Addr.add, ↓reduceIte] at hx207_2); have qi207 : (1 < t201.length) = True := eq_true (by omega); (try rw [show ((1 : Int)).toNat = 1 from rfl] at hx207_0); (try rw [show 1 * 3 = 3 from rfl] at hx207_0); (try rw [show ((1 : Int)).toNat = 1 from rfl] at hx207_1); (try rw [show 1 * 3 = 3 from rfl] at hx207_1); (try rw [show ((1 : Int)).toNat = 1 from rfl] at hx207_2); (try rw [show 1 * 3 = 3 from rfl] at hx207_2); replace p207 := eq_true p207; replace q207 := eq_true q207))
              go_ret
              exact ⟨by first | rfl | (simp [errW_none, errW_some] <;> rfl) | (simp [*, errW_none, errW_some] <;> rfl), by repeat (first | (with_reducible first | exact HB.out | apply below_alloc | apply pw_below_drewN | apply below_drew1) | exact HB.out)⟩
          · rw [if_neg c6] at H
            exact absurd H (by simp)
        · rw [if_neg c5] at H
          have c5b0 : (((rd_T29 t201 0).f0) == 1 && ((((rd_T29 t201 0).f1).toList) == ([97] : List UInt8) && (((rd_T29 t201 0).f2) == 0))) = false := by simpa using c5
          (try (have c5b1 : decide (((rd_T29 t201 0).f0) = 1 && ((((rd_T29 t201 0).f1).toList) == ([97] : List UInt8) && (((rd_T29 t201 0).f2) == 0))) = false := by simpa using c5))
          (try (have c5b2 : (((rd_T29 t201 0).f0) == 1 && ((((rd_T29 t201 0).f1).toList) == ([97] : List UInt8) && (((rd_T29 t201 0).f2) == 0))) = false := by simpa using c5))
          (try (have c5b3 : ¬ (((rd_T29 t201 0).f0) = 1 && ((((rd_T29 t201 0).f1).toList) == ([97] : List UInt8) && (((rd_T29 t201 0).f2) == 0))) := by simpa using c5))
          clear c5
          obtain rfl := Option.some.inj H
          go_enter Try.func7, Try.ntmps7
          go_wp2_with (first | ((with_reducible refine gate_callee (f := 5) rfl ?_); refine goesL_ (some 5) rfl rfl Try.func5 (by kernel_rfl) rfl #[.string (⟨#[65, 60, 62, 49, 46, 53]⟩ : ByteArray)] rfl (by (try simp only [List.map_toArray, List.map_cons, List.map_nil]); first | done | rfl | (simp only [List.length_drop, List.length_take]; rfl)) ?_; (with_reducible refine (lex_Tokens.calls k (⟨#[65, 60, 62, 49, 46, 53]⟩ : ByteArray) t201 t202 t203 _ A1.out).mono ?_); rintro e w13 ⟨v204, rfl, ho0, hb⟩; refine ⟨_, rfl, ?_⟩; have n0_ := Aside0.mk (Kd.R_lower ho0 (below_size (by repeat (first | (with_reducible first | exact HB.out | apply below_alloc | apply pw_below_drewN | apply below_drew1) | exact HB.out)))); have n1_ := Aside0.mk (below_step (by repeat (first | (with_reducible first | exact HB.out | apply below_alloc | apply pw_below_drewN | apply below_drew1) | exact HB.out)) hb); clear HB; have HO205 := n0_; have HB := n1_; clear n0_ n1_; (try clear hb); (try clear hb2); (try clear hk); (try clear hi); (try clear ho0); obtain ⟨Ao14, co14, eo14⟩ := Kd.R_slice HO205.out; subst eo14; have p206 : 0 ≤ (0 : Int) := (by omega); have q206 : 0 < (t201.length : Int) := of_decide_eq_true (by first | (with_reducible assumption) | assumption); obtain ⟨ad206, e206, hx206_0, hx206_1, hx206_2⟩ := at_T29 (Kd.R_reads' HO205.out).2.2 0 p206 q206; cases e206; have qi206 : (0 < t201.length) = True := eq_true (by omega); (try rw [show ((0 : Int)).toNat = 0 from rfl] at hx206_0); (try rw [show 0 * 3 = 0 from rfl] at hx206_0); (try rw [Addr.add_zero'] at hx206_0); (try rw [show ((0 : Int)).toNat = 0 from rfl] at hx206_1); (try rw [show 0 * 3 = 0 from rfl] at hx206_1); (try rw [Addr.add_zero'] at hx206_1); (try rw [show ((0 : Int)).toNat = 0 from rfl] at hx206_2); (try rw [show 0 * 3 = 0 from rfl] at hx206_2); (try rw [Addr.add_zero'] at hx206_2); replace p206 := eq_true p206; replace q206 := eq_true q206))
          go_ret
          exact ⟨by first | rfl | (simp [errW_none, errW_some] <;> rfl) | (simp [*, errW_none, errW_some] <;> rfl), by repeat (first | (with_reducible first | exact HB.out | apply below_alloc | apply pw_below_drewN | apply below_drew1) | exact HB.out)⟩
      · rw [if_neg c4] at H
        exact absurd H (by simp)
    · rw [if_neg c3] at H
      have c3b0 : ((t201.length : Int) == 3) = false := beq_eq_false_iff_ne.mpr c3
      have c3b1 : ((t201.length : Int) != 3) = true := bne_iff_ne.mpr c3
      obtain rfl := Option.some.inj H
      go_enter Try.func7, Try.ntmps7
      go_wp2_with (first | ((with_reducible refine gate_callee (f := 5) rfl ?_); refine goesL_ (some 5) rfl rfl Try.func5 (by kernel_rfl) rfl #[.string (⟨#[65, 60, 62, 49, 46, 53]⟩ : ByteArray)] rfl (by (try simp only [List.map_toArray, List.map_cons, List.map_nil]); first | done | rfl | (simp only [List.length_drop, List.length_take]; rfl)) ?_; (with_reducible refine (lex_Tokens.calls k (⟨#[65, 60, 62, 49, 46, 53]⟩ : ByteArray) t201 t202 t203 _ A1.out).mono ?_); rintro e w15 ⟨v204, rfl, ho0, hb⟩; refine ⟨_, rfl, ?_⟩; have n0_ := Aside0.mk (Kd.R_lower ho0 (below_size (by repeat (first | (with_reducible first | exact HB.out | apply below_alloc | apply pw_below_drewN | apply below_drew1) | exact HB.out)))); have n1_ := Aside0.mk (below_step (by repeat (first | (with_reducible first | exact HB.out | apply below_alloc | apply pw_below_drewN | apply below_drew1) | exact HB.out)) hb); clear HB; have HO205 := n0_; have HB := n1_; clear n0_ n1_; (try clear hb); (try clear hb2); (try clear hk); (try clear hi); (try clear ho0); obtain ⟨Ao16, co16, eo16⟩ := Kd.R_slice HO205.out; subst eo16))
      go_ret
      exact ⟨by first | rfl | (simp [errW_none, errW_some] <;> rfl) | (simp [*, errW_none, errW_some] <;> rfl), by repeat (first | (with_reducible first | exact HB.out | apply below_alloc | apply pw_below_drewN | apply below_drew1) | exact HB.out)⟩
  · rw [if_neg c2] at H
    have c2b0 : (t203 == 0) = false := beq_eq_false_iff_ne.mpr c2
    have c2b1 : (t203 != 0) = true := bne_iff_ne.mpr c2
    obtain rfl := Option.some.inj H
    go_enter Try.func7, Try.ntmps7
    go_wp2_with (first | ((with_reducible refine gate_callee (f := 5) rfl ?_); refine goesL_ (some 5) rfl rfl Try.func5 (by kernel_rfl) rfl #[.string (⟨#[65, 60, 62, 49, 46, 53]⟩ : ByteArray)] rfl (by (try simp only [List.map_toArray, List.map_cons, List.map_nil]); first | done | rfl | (simp only [List.length_drop, List.length_take]; rfl)) ?_; (with_reducible refine (lex_Tokens.calls k (⟨#[65, 60, 62, 49, 46, 53]⟩ : ByteArray) t201 t202 t203 _ A1.out).mono ?_); rintro e w17 ⟨v204, rfl, ho0, hb⟩; refine ⟨_, rfl, ?_⟩; have n0_ := Aside0.mk (Kd.R_lower ho0 (below_size (by repeat (first | (with_reducible first | exact HB.out | apply below_alloc | apply pw_below_drewN | apply below_drew1) | exact HB.out)))); have n1_ := Aside0.mk (below_step (by repeat (first | (with_reducible first | exact HB.out | apply below_alloc | apply pw_below_drewN | apply below_drew1) | exact HB.out)) hb); clear HB; have HO205 := n0_; have HB := n1_; clear n0_ n1_; (try clear hb); (try clear hb2); (try clear hk); (try clear hi); (try clear ho0)))
    go_ret
    exact ⟨by first | rfl | (simp [errW_none, errW_some] <;> rfl) | (simp [*, errW_none, errW_some] <;> rfl), by repeat (first | (with_reducible first | exact HB.out | apply below_alloc | apply pw_below_drewN | apply below_drew1) | exact HB.out)⟩

end Go.Proofs.Ytmpamcfeijnafaa.R
