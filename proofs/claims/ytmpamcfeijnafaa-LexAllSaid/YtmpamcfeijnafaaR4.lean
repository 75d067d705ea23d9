/- PRINTED BY A PROGRAM OF THIS SESSION (px.py, over the kit's print): Lean functions with the answers of Go functions of the given program, and proofs that the Go code comes to these answers; each under the conditions that its theorem states. -/
import Derived.Test.YtmpamcfeijnafaaR0
import Derived.Test.YtmpamcfeijnafaaR2
namespace Go.Proofs.Ytmpamcfeijnafaa.R
open Go.RowKit Go.Proofs.YtmpamcfeijnafaaW.PrintWords Go.Proofs.YtmpamcfeijnafaaW.PrintLast Go.Proofs.YtmpamcfeijnafaaW.PrintMore
attribute [local go_sem] max2_int min2_int max_two min_two max_three min_three max_four min_four   -- for this text's walks alone
set_option linter.unusedVariables false
set_option linter.unusedSimpArgs false

/-! ### lex_number: function 33 -/
def lex_number.f (k : Nat) (a0 : ByteArray) : Option (Int) := (lex_run.f k a0 (⟨#[48, 49, 50, 51, 52, 53, 54, 55, 56, 57]⟩ : ByteArray)).bind fun t107 => (if (wrap64 (t107 + 1)) < (a0.size : Int) then (if 0 ≤ t107 then (if t107 < (a0.size : Int) then (if (bt a0 t107) = 46 then (if 0 ≤ (wrap64 (t107 + 1)) then ((lex_is.f (bt a0 (wrap64 (t107 + 1))) (⟨#[48, 49, 50, 51, 52, 53, 54, 55, 56, 57]⟩ : ByteArray)).bind fun t108 => (if t108 = true then (if (wrap64 (t107 + 1)) ≤ (a0.size : Int) then ((lex_run.f k (a0.extract ((wrap64 (t107 + 1)) : Int).toNat a0.size) (⟨#[48, 49, 50, 51, 52, 53, 54, 55, 56, 57]⟩ : ByteArray)).bind fun t109 => (some (wrap64 (t107 + (wrap64 (1 + t109)))))) else (none)) else (some t107))) else (none)) else (some t107)) else (none)) else (none)) else (some t107))
theorem lex_number.mono : ∀ a0 k, LeO (lex_number.f k a0) (lex_number.f (k + 1) a0) := by
  intro a0 k
  unfold lex_number.f
  repeat' first
      | (with_reducible exact lex_run.mono _ _ _)
      | (with_reducible exact LeO.refl _)
      | (with_reducible exact LeO.none _)
      | (with_reducible refine LeO.ite ?_ ?_)
      | (with_reducible refine LeO.bind ?_ (fun _ => ?_))
      | exact lex_run.mono _ _ _
      | exact LeO.none _
      | refine LeO.ite ?_ ?_
      | refine LeO.bind ?_ (fun _ => ?_)
set_option maxHeartbeats 8000000 in
set_option maxRecDepth 100000 in
theorem lex_number.calls (k : Nat) (a0 : ByteArray) (r : Int) (w : World) (h : lex_number.f k a0 = some r) :
    Calls Try.prog 33 #[.string a0] w fun e w' => e = .returned (.int .i64 r) ∧ Drawn0 w w' := by
  have H : ((lex_run.f k a0 (⟨#[48, 49, 50, 51, 52, 53, 54, 55, 56, 57]⟩ : ByteArray)).bind fun t107 => (if (wrap64 (t107 + 1)) < (a0.size : Int) then (if 0 ≤ t107 then (if t107 < (a0.size : Int) then (if (bt a0 t107) = 46 then (if 0 ≤ (wrap64 (t107 + 1)) then ((lex_is.f (bt a0 (wrap64 (t107 + 1))) (⟨#[48, 49, 50, 51, 52, 53, 54, 55, 56, 57]⟩ : ByteArray)).bind fun t108 => (if t108 = true then (if (wrap64 (t107 + 1)) ≤ (a0.size : Int) then ((lex_run.f k (a0.extract ((wrap64 (t107 + 1)) : Int).toNat a0.size) (⟨#[48, 49, 50, 51, 52, 53, 54, 55, 56, 57]⟩ : ByteArray)).bind fun t109 => (some (wrap64 (t107 + (wrap64 (1 + t109)))))) else (none)) else (some t107))) else (none)) else (some t107)) else (none)) else (none)) else (some t107))) = some r := h
  clear h
  replace H := Option.bind_eq_some_iff.mp H
  obtain ⟨t107, A20, H⟩ := H
  replace H : (if (wrap64 (t107 + 1)) < (a0.size : Int) then (if 0 ≤ t107 then (if t107 < (a0.size : Int) then (if (bt a0 t107) = 46 then (if 0 ≤ (wrap64 (t107 + 1)) then ((lex_is.f (bt a0 (wrap64 (t107 + 1))) (⟨#[48, 49, 50, 51, 52, 53, 54, 55, 56, 57]⟩ : ByteArray)).bind fun t108 => (if t108 = true then (if (wrap64 (t107 + 1)) ≤ (a0.size : Int) then ((lex_run.f k (a0.extract ((wrap64 (t107 + 1)) : Int).toNat a0.size) (⟨#[48, 49, 50, 51, 52, 53, 54, 55, 56, 57]⟩ : ByteArray)).bind fun t109 => (some (wrap64 (t107 + (wrap64 (1 + t109)))))) else (none)) else (some t107))) else (none)) else (some t107)) else (none)) else (none)) else (some t107)) = some r := H
  have A2 := Aside0.mk A20
  clear A20
  by_cases c3 : (wrap64 (t107 + 1)) < (a0.size : Int)
  · rw [if_pos c3] at H
    have c3b0 : decide ((wrap64 (t107 + 1)) < (a0.size : Int)) = true := decide_eq_true c3
    clear c3
    by_cases c4 : 0 ≤ t107
    · rw [if_pos c4] at H
      have c4b0 : decide (0 ≤ t107) = true := decide_eq_true c4
      clear c4
      by_cases c5 : t107 < (a0.size : Int)
      · rw [if_pos c5] at H
        have c5b0 : decide (t107 < (a0.size : Int)) = true := decide_eq_true c5
        clear c5
        by_cases c7 : (bt a0 t107) = 46
        · rw [if_pos c7] at H
          have c7b0 : ((bt a0 t107) == 46) = true := beq_iff_eq.mpr c7
          have c7b1 : ((bt a0 t107) != 46) = false := bne_eq_false_iff_eq.mpr c7
          clear c7
          obtain ⟨ji8, hji8⟩ : ∃ j_ : Int, (wrap64 (t107 + 1)) = j_ := ⟨_, rfl⟩
          replace H : (if 0 ≤ (ji8) then ((lex_is.f (bt a0 (ji8)) (⟨#[48, 49, 50, 51, 52, 53, 54, 55, 56, 57]⟩ : ByteArray)).bind fun t108 => (if t108 = true then (if (ji8) ≤ (a0.size : Int) then ((lex_run.f k (a0.extract ((ji8) : Int).toNat a0.size) (⟨#[48, 49, 50, 51, 52, 53, 54, 55, 56, 57]⟩ : ByteArray)).bind fun t109 => (some (wrap64 (t107 + (wrap64 (1 + t109)))))) else (none)) else (some t107))) else (none)) = some r := by first | (rw [hji8] at H; exact H) | (simp only [hji8] at H ⊢; exact H)
          (try rw [hji8] at c3b0)
          (try rw [hji8] at A2)
          have hji8w : (IntKind.i64.wrap (t107 + 1)) = ji8 := (i64_w _).trans hji8
          by_cases c9 : 0 ≤ (ji8)
          · rw [if_pos c9] at H
            have c9b0 : decide (0 ≤ (ji8)) = true := decide_eq_true c9
            clear c9
            replace H := Option.bind_eq_some_iff.mp H
            obtain ⟨t108, A110, H⟩ := H
            replace H : (if t108 = true then (if (ji8) ≤ (a0.size : Int) then ((lex_run.f k (a0.extract ((ji8) : Int).toNat a0.size) (⟨#[48, 49, 50, 51, 52, 53, 54, 55, 56, 57]⟩ : ByteArray)).bind fun t109 => (some (wrap64 (t107 + (wrap64 (1 + t109)))))) else (none)) else (some t107)) = some r := H
            have A11 := Aside0.mk A110
            clear A110
            by_cases c12 : t108 = true
            · subst c12
              have H1 : (if (ji8) ≤ (a0.size : Int) then ((lex_run.f k (a0.extract ((ji8) : Int).toNat a0.size) (⟨#[48, 49, 50, 51, 52, 53, 54, 55, 56, 57]⟩ : ByteArray)).bind fun t109 => (some (wrap64 (t107 + (wrap64 (1 + t109)))))) else (none)) = some r := by rw [if_pos rfl] at H; exact H
              clear H
              have H := H1
              clear H1
              have c13b0 := eq_true (of_decide_eq_true (by first | (with_reducible assumption) | assumption) : 0 ≤ (ji8))
              by_cases c14 : (ji8) ≤ (a0.size : Int)
              · rw [if_pos c14] at H
                have c14b0 := eq_true c14
                (try (have c14n := c14; simp [size_lit] at c14n))
                have c14b1 : decide ((ji8) ≤ (a0.size : Int)) = true := decide_eq_true c14
                clear c14
                replace H := Option.bind_eq_some_iff.mp H
                obtain ⟨t109, A150, H⟩ := H
                replace H : (some (wrap64 (t107 + (wrap64 (1 + t109))))) = some r := H
                have A15 := Aside0.mk A150
                clear A150
                obtain rfl := Option.some.inj H
                go_enter Try.func33, Try.ntmps33
                go_wp2_with (first | ((with_reducible refine gate_callee (f := 28) rfl ?_); refine goesL_ (some 5) rfl rfl Try.func28 (by kernel_rfl) rfl #[.string a0, .string (⟨#[48, 49, 50, 51, 52, 53, 54, 55, 56, 57]⟩ : ByteArray)] rfl (by (try simp only [List.map_toArray, List.map_cons, List.map_nil]); first | done | rfl | (simp only [List.length_drop, List.length_take]; rfl)) ?_; (with_reducible refine (lex_run.calls k a0 (⟨#[48, 49, 50, 51, 52, 53, 54, 55, 56, 57]⟩ : ByteArray) t107 _ A2.out).mono ?_); rintro e w' ⟨rfl, ⟨nd, rfl⟩⟩; refine ⟨_, rfl, ?_⟩; have p6 : 0 ≤ (t107 : Int) := of_decide_eq_true (by first | (with_reducible assumption) | assumption); have q6 : t107 < (a0.size : Int) := of_decide_eq_true (by first | (with_reducible assumption) | assumption); have hx6 := bt_at a0 t107; replace p6 := eq_true p6; replace q6 := eq_true q6; have p10 : 0 ≤ ((ji8) : Int) := of_decide_eq_true (by first | (with_reducible assumption) | assumption); have q10 : (ji8) < (a0.size : Int) := of_decide_eq_true (by first | (with_reducible assumption) | assumption); have hx10 := bt_at a0 (ji8); replace p10 := eq_true p10; replace q10 := eq_true q10) | (go_at_call 31; (with_reducible refine (lex_is.calls (bt a0 (ji8)) (⟨#[48, 49, 50, 51, 52, 53, 54, 55, 56, 57]⟩ : ByteArray) true _ A11.out).mono ?_); rintro e w' ⟨rfl, ⟨nd, rfl⟩⟩) | ((with_reducible refine gate_callee (f := 28) rfl ?_); refine goesL_ (some 29) rfl rfl Try.func28 (by kernel_rfl) rfl #[.string (a0.extract ((ji8) : Int).toNat a0.size), .string (⟨#[48, 49, 50, 51, 52, 53, 54, 55, 56, 57]⟩ : ByteArray)] rfl (by (try simp only [List.map_toArray, List.map_cons, List.map_nil]); first | done | (simp only [hji8]; rfl) | rfl | (simp only [List.length_drop, List.length_take]; rfl)) ?_; (with_reducible refine (lex_run.calls k (a0.extract ((ji8) : Int).toNat a0.size) (⟨#[48, 49, 50, 51, 52, 53, 54, 55, 56, 57]⟩ : ByteArray) t109 _ A15.out).mono ?_); rintro e w' ⟨rfl, ⟨nd, rfl⟩⟩; refine ⟨_, rfl, ?_⟩))
                go_ret
                exact ⟨by first | rfl | (simp; done) | (simp only [← hji8] <;> (first | rfl | simp)) | (simp [*]; done), by repeat (first | exact Drawn0.refl _ | apply Drawn0.step)⟩
              · rw [if_neg c14] at H
                exact absurd H (by simp)
            · replace c12 := Bool.eq_false_iff.mpr c12
              subst c12
              have H1 : (some t107) = some r := by rw [if_neg (show ¬ (false = true) by decide)] at H; exact H
              clear H
              have H := H1
              clear H1
              obtain rfl := Option.some.inj H
              go_enter Try.func33, Try.ntmps33
              go_wp2_with (first | ((with_reducible refine gate_callee (f := 28) rfl ?_); refine goesL_ (some 5) rfl rfl Try.func28 (by kernel_rfl) rfl #[.string a0, .string (⟨#[48, 49, 50, 51, 52, 53, 54, 55, 56, 57]⟩ : ByteArray)] rfl (by (try simp only [List.map_toArray, List.map_cons, List.map_nil]); first | done | rfl | (simp only [List.length_drop, List.length_take]; rfl)) ?_; (with_reducible refine (lex_run.calls k a0 (⟨#[48, 49, 50, 51, 52, 53, 54, 55, 56, 57]⟩ : ByteArray) t107 _ A2.out).mono ?_); rintro e w' ⟨rfl, ⟨nd, rfl⟩⟩; refine ⟨_, rfl, ?_⟩; have p6 : 0 ≤ (t107 : Int) := of_decide_eq_true (by first | (with_reducible assumption) | assumption); have q6 : t107 < (a0.size : Int) := of_decide_eq_true (by first | (with_reducible assumption) | assumption); have hx6 := bt_at a0 t107; replace p6 := eq_true p6; replace q6 := eq_true q6; have p10 : 0 ≤ ((ji8) : Int) := of_decide_eq_true (by first | (with_reducible assumption) | assumption); have q10 : (ji8) < (a0.size : Int) := of_decide_eq_true (by first | (with_reducible assumption) | assumption); have hx10 := bt_at a0 (ji8); replace p10 := eq_true p10; replace q10 := eq_true q10) | (go_at_call 31; (with_reducible refine (lex_is.calls (bt a0 (ji8)) (⟨#[48, 49, 50, 51, 52, 53, 54, 55, 56, 57]⟩ : ByteArray) false _ A11.out).mono ?_); rintro e w' ⟨rfl, ⟨nd, rfl⟩⟩))
              go_ret
              exact ⟨by first | rfl | (simp; done) | (simp only [← hji8] <;> (first | rfl | simp)) | (simp [*]; done), by repeat (first | exact Drawn0.refl _ | apply Drawn0.step)⟩
          · rw [if_neg c9] at H
            exact absurd H (by simp)
        · rw [if_neg c7] at H
          have c7b0 : ((bt a0 t107) == 46) = false := beq_eq_false_iff_ne.mpr c7
          have c7b1 : ((bt a0 t107) != 46) = true := bne_iff_ne.mpr c7
          obtain rfl := Option.some.inj H
          go_enter Try.func33, Try.ntmps33
          go_wp2_with (first | ((with_reducible refine gate_callee (f := 28) rfl ?_); refine goesL_ (some 5) rfl rfl Try.func28 (by kernel_rfl) rfl #[.string a0, .string (⟨#[48, 49, 50, 51, 52, 53, 54, 55, 56, 57]⟩ : ByteArray)] rfl (by (try simp only [List.map_toArray, List.map_cons, List.map_nil]); first | done | rfl | (simp only [List.length_drop, List.length_take]; rfl)) ?_; (with_reducible refine (lex_run.calls k a0 (⟨#[48, 49, 50, 51, 52, 53, 54, 55, 56, 57]⟩ : ByteArray) t107 _ A2.out).mono ?_); rintro e w' ⟨rfl, ⟨nd, rfl⟩⟩; refine ⟨_, rfl, ?_⟩; have p6 : 0 ≤ (t107 : Int) := of_decide_eq_true (by first | (with_reducible assumption) | assumption); have q6 : t107 < (a0.size : Int) := of_decide_eq_true (by first | (with_reducible assumption) | assumption); have hx6 := bt_at a0 t107; replace p6 := eq_true p6; replace q6 := eq_true q6))
          go_ret
          exact ⟨by first | rfl | (simp; done) | (simp [*]; done), by repeat (first | exact Drawn0.refl _ | apply Drawn0.step)⟩
      · rw [if_neg c5] at H
        exact absurd H (by simp)
    · rw [if_neg c4] at H
      exact absurd H (by simp)
  · rw [if_neg c3] at H
    have c3b0 : decide ((wrap64 (t107 + 1)) < (a0.size : Int)) = false := decide_eq_false c3
    clear c3
    obtain rfl := Option.some.inj H
    go_enter Try.func33, Try.ntmps33
    go_wp2_with (first | ((with_reducible refine gate_callee (f := 28) rfl ?_); refine goesL_ (some 5) rfl rfl Try.func28 (by kernel_rfl) rfl #[.string a0, .string (⟨#[48, 49, 50, 51, 52, 53, 54, 55, 56, 57]⟩ : ByteArray)] rfl (by (try simp only [List.map_toArray, List.map_cons, List.map_nil]); first | done | rfl | (simp only [List.length_drop, List.length_take]; rfl)) ?_; (with_reducible refine (lex_run.calls k a0 (⟨#[48, 49, 50, 51, 52, 53, 54, 55, 56, 57]⟩ : ByteArray) t107 _ A2.out).mono ?_); rintro e w' ⟨rfl, ⟨nd, rfl⟩⟩; refine ⟨_, rfl, ?_⟩))
    go_ret
    exact ⟨by first | rfl | (simp; done) | (simp [*]; done), by repeat (first | exact Drawn0.refl _ | apply Drawn0.step)⟩

/-! ### lex_quoted: function 34, by hand -/
/-- the byte at a place -/
def lex_quoted.ch (s : ByteArray) (i : Nat) : UInt8 := s.data.toList.getD i 0
theorem lex_quoted.bt_ch (s : ByteArray) (i : Nat) (h : i < s.size) : bt s (i : Int) = ((lex_quoted.ch s i).toNat : Int) := by
  have hl : i < s.data.toList.length := by rw [Array.length_toList]; exact h
  unfold bt lex_quoted.ch
  rw [dif_pos (show ((i : Int)).toNat < s.size from h), List.getD_eq_getElem?_getD, List.getElem?_eq_getElem hl]
  rfl
def lex_quoted.l0 : Nat → ByteArray → Nat → List UInt8 → ByteArray × Int
  | 0, _, _, _ => (⟨#[]⟩, 0)
  | k + 1, s, i, acc => if i < s.size then (if lex_quoted.ch s i = 39 then (if i + 1 < s.size ∧ lex_quoted.ch s (i + 1) = 39 then lex_quoted.l0 k s (i + 2) (acc ++ [39]) else (⟨acc.toArray⟩, ((i + 1 : Nat) : Int))) else lex_quoted.l0 k s (i + 1) (acc ++ [lex_quoted.ch s i])) else (⟨#[]⟩, 0)
def lex_quoted.f (a0 : ByteArray) : Option (ByteArray × Int) := if a0.size ≤ 140737488351232 then some (lex_quoted.l0 a0.size a0 1 []) else none
set_option maxHeartbeats 8000000 in
set_option maxRecDepth 100000 in
theorem lex_quoted.calls (a0 : ByteArray) (r : ByteArray × Int) (w : World) (h : lex_quoted.f a0 = some r) :
    Calls Try.prog 34 #[.string a0] w fun e w' => e = .returned (.tuple #[.string r.1, .int .i64 r.2]) ∧ Below w.heap.size w w' := by
  unfold lex_quoted.f at h
  by_cases hs : a0.size ≤ 140737488351232
  · rw [if_pos hs] at h
    have hr := Option.some.inj h
    clear h
    have HR := Aside0.mk hr
    clear hr
    have HB := Aside0.mk (Lib.fresh_isBuilder 61 5 w)
    go_enter Try.func34, Try.ntmps34
    go_wp2
    go_loopg [5] a0.size (fun kq v5 wr => ∃ (i : Nat) (acc : List UInt8), v5 = .int .i64 (i : Int) ∧ Aside0 (a0.size ≤ i + kq ∧ acc.length ≤ i ∧ i ≤ a0.size + 2) ∧ Aside0 (lex_quoted.l0 kq a0 i acc = r) ∧ Aside0 (Builder.Holds w.heap.size w.heap.size (Lib.byteCells acc) wr) ∧ Aside0 (Below w.heap.size w wr))
    case atStart => exact ⟨1, [], rfl, ⟨by omega, by simp, by omega⟩, HR, HB, ⟨by first | exact Below.alloc_self _ _ | exact Below.alloc (Below.refl _ _) (Nat.le_refl _) _ | exact (Below.refl _ _).alloc (Nat.le_refl _) _⟩⟩
    case round =>
      clear HR HB
      obtain ⟨i, acc, rfl, HK, HL, HH, HW⟩ := hrel
      by_cases c : i < a0.size
      · have c1 : decide ((i : Int) < (a0.size : Int)) = true := decide_eq_true (by omega)
        obtain ⟨k1, rfl⟩ : ∃ k1, gk = k1 + 1 := ⟨gk - 1, by have := HK.out; omega⟩
        have hL := HL.out
        clear HL
        unfold lex_quoted.l0 at hL
        rw [if_pos c] at hL
        have p5 : 0 ≤ (i : Int) := by omega
        have q5 : (i : Int) < (a0.size : Int) := by omega
        have hv := lex_quoted.bt_ch a0 i c
        obtain ⟨v, hvv⟩ : ∃ v : Int, v = bt a0 (i : Int) := ⟨_, rfl⟩
        rw [← hvv] at hv
        have hx5 : ∀ h : i < a0.size, ((a0[i]'h).toNat : Int) = v := fun h => by rw [hvv]; exact bt_at a0 (i : Int) h
        have wi : IntKind.i64.wrap ((i : Int) + 1) = (i : Int) + 1 := by rw [IntKind.wrap_i64]; omega
        have wi2 : IntKind.i64.wrap ((i : Int) + 1 + 1) = (i : Int) + 1 + 1 := by rw [IntKind.wrap_i64]; omega
        by_cases d : lex_quoted.ch a0 i = 39
        · rw [if_pos d] at hL
          have d1 : decide (v = 39) = true := decide_eq_true (by rw [hv, d]; rfl)
          have d2 : (v == 39) = true := by rw [hv, d]; rfl
          by_cases e : i + 1 < a0.size
          · have e1 : decide ((i : Int) + 1 = (a0.size : Int)) = false := decide_eq_false (by omega)
            have e2 : ((i : Int) + 1 == (a0.size : Int)) = false := by simp; omega
            have p6 : 0 ≤ (i : Int) + 1 := by omega
            have q6 : (i : Int) + 1 < (a0.size : Int) := by omega
            have hu := lex_quoted.bt_ch a0 (i + 1) e
            obtain ⟨u, huu⟩ : ∃ u : Int, u = bt a0 ((i + 1 : Nat) : Int) := ⟨_, rfl⟩
            rw [← huu] at hu
            have hx6 : ∀ h : i + 1 < a0.size, ((a0[i + 1]'h).toNat : Int) = u := fun h => by rw [huu]; exact bt_at a0 ((i + 1 : Nat) : Int) h
            by_cases g : lex_quoted.ch a0 (i + 1) = 39
            · rw [if_pos ⟨e, g⟩] at hL
              have g1 : decide (u = 39) = true := decide_eq_true (by rw [hu, g]; rfl)
              have g2 : (u == 39) = true := by rw [hu, g]; rfl
              have g3 : (u != 39) = false := by rw [hu, g]; rfl
              have eu : u = 39 := by rw [hu, g]; rfl
              have HL := Aside0.mk hL
              have HV := Aside0.mk hv
              have HU := Aside0.mk hu
              clear hL hv hu hvv huu d g
              replace p5 := eq_true p5
              replace q5 := eq_true q5
              replace p6 := eq_true p6
              replace q6 := eq_true q6
              go_wp2_with (first | (go_at_call 38; (with_reducible refine (Builder.writeByte w.heap.size w.heap.size (Lib.byteCells acc) 39 _ HH.out (by have := HK.out; simp [Lib.byteCells]; omega) (by have := HW.out.size; omega)).mono ?_); rintro e' w' ⟨rfl, hh, hb⟩))
              go_roundg k1
              case measure => omega
              case rel => exact ⟨i + 2, acc ++ [39], (by first | rfl | (simp; done)), ⟨by have := HK.out; simp; omega⟩, HL, ⟨by simpa [Lib.byteCells, eu] using hh⟩, ⟨HW.out.trans hb⟩⟩
            · rw [if_neg (fun z => g z.2)] at hL
              have g1 : decide (u = 39) = false := decide_eq_false (by rw [hu]; intro z; exact g (UInt8.toNat_inj.1 (by simpa using (by omega : (lex_quoted.ch a0 (i + 1)).toNat = 39))))
              have g2 : (u == 39) = false := beq_eq_false_iff_ne.2 (of_decide_eq_false g1)
              have g3 : (u != 39) = true := bne_iff_ne.2 (of_decide_eq_false g1)
              subst hL
              have HV := Aside0.mk hv
              have HU := Aside0.mk hu
              clear hv hu hvv huu d g
              replace p5 := eq_true p5
              replace q5 := eq_true q5
              replace p6 := eq_true p6
              replace q6 := eq_true q6
              go_wp2_with (first | (go_at_call 37; (with_reducible refine (Try.Builder_String_any w.heap.size w.heap.size acc _ HH.out (by have := HW.out.size; omega)).mono ?_); rintro e' w' ⟨rfl, hb⟩))
              go_ret2
              exact ⟨rfl, HW.out.trans hb⟩
          · have e1 : decide ((i : Int) + 1 = (a0.size : Int)) = true := decide_eq_true (by omega)
            have e2 : ((i : Int) + 1 == (a0.size : Int)) = true := by simp; omega
            rw [if_neg (fun z => e z.1)] at hL
            subst hL
            have HV := Aside0.mk hv
            clear hv hvv d
            replace p5 := eq_true p5
            replace q5 := eq_true q5
            go_wp2_with (first | (go_at_call 37; (with_reducible refine (Try.Builder_String_any w.heap.size w.heap.size acc _ HH.out (by have := HW.out.size; omega)).mono ?_); rintro e' w' ⟨rfl, hb⟩))
            go_ret2
            exact ⟨rfl, HW.out.trans hb⟩
        · rw [if_neg d] at hL
          have d1 : decide (v = 39) = false := decide_eq_false (by rw [hv]; intro z; exact d (UInt8.toNat_inj.1 (by simpa using (by omega : (lex_quoted.ch a0 i).toNat = 39))))
          have d2 : (v == 39) = false := beq_eq_false_iff_ne.2 (of_decide_eq_false d1)
          have HL := Aside0.mk hL
          have HV := Aside0.mk hv
          clear hL hv hvv d
          replace p5 := eq_true p5
          replace q5 := eq_true q5
          go_wp2_with (first | (go_at_call 38; (with_reducible refine (Builder.writeByte w.heap.size w.heap.size (Lib.byteCells acc) v _ HH.out (by have := HK.out; simp [Lib.byteCells]; omega) (by have := HW.out.size; omega)).mono ?_); rintro e' w' ⟨rfl, hh, hb⟩))
          go_roundg k1
          case measure => omega
          case rel => exact ⟨i + 1, acc ++ [lex_quoted.ch a0 i], (by first | rfl | (simp; done)), ⟨by have := HK.out; simp; omega⟩, HL, ⟨by simpa [Lib.byteCells, HV.out] using hh⟩, ⟨HW.out.trans hb⟩⟩
      · have c1 : decide ((i : Int) < (a0.size : Int)) = false := decide_eq_false (by omega)
        have hL := HL.out
        have hr : r = (⟨#[]⟩, 0) := by
          rw [← hL]
          cases gk with
          | zero => rfl
          | succ k1 => unfold lex_quoted.l0; rw [if_neg c]
        subst hr
        clear hL HL
        go_wp2
        go_ret2
        exact ⟨rfl, HW.out⟩
  · rw [if_neg hs] at h; exact absurd h (by simp)


end Go.Proofs.Ytmpamcfeijnafaa.R
