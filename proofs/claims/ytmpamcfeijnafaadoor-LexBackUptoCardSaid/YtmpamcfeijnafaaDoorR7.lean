/- PRINTED BY A PROGRAM OF THIS SESSION (px.py, over the kit's print): Lean functions with the answers of Go functions of the given program, and proofs that the Go code comes to these answers; each under the conditions that its theorem states. -/
import Derived.Test.YtmpamcfeijnafaaDoorR0
import Derived.Test.YtmpamcfeijnafaaDoorR1
import Derived.Test.YtmpamcfeijnafaaDoorR6
namespace Go.Proofs.YtmpamcfeijnafaaDoor.R
open Go.RowKit Go.Proofs.YtmpamcfeijnafaaDoorW.PrintWords Go.Proofs.YtmpamcfeijnafaaDoorW.PrintLast Go.Proofs.YtmpamcfeijnafaaDoorW.PrintMore
attribute [local go_sem] max2_int min2_int max_two min_two max_three min_three max_four min_four   -- for this text's walks alone
set_option linter.unusedVariables false
set_option linter.unusedSimpArgs false

attribute [local go_sem high] eqA25
/-! ### colonnadelaw16_begun: function 6 -/
def colonnadelaw16_begun.f (k : Nat)  : Option (Bool) := (lex_Tokens.f k (⟨#[65, 60, 62, 49, 46, 53]⟩ : ByteArray)).bind fun bt124 => (if bt124.2.2 = 0 then (if (bt124.1.length : Int) = 3 then (if 0 < (bt124.1.length : Int) then (if (((rd_T25 bt124.1 0).f0) == 1 && ((((rd_T25 bt124.1 0).f1).toList) == ([97] : List UInt8) && (((rd_T25 bt124.1 0).f2) == 0))) = true then (if 1 < (bt124.1.length : Int) then (if (((rd_T25 bt124.1 1).f0) == 4 && ((((rd_T25 bt124.1 1).f1).toList) == ([60, 62] : List UInt8) && (((rd_T25 bt124.1 1).f2) == 1))) = true then (if 2 < (bt124.1.length : Int) then (some (((rd_T25 bt124.1 2).f0) == 2 && ((((rd_T25 bt124.1 2).f1).toList) == ([49, 46, 53] : List UInt8) && (((rd_T25 bt124.1 2).f2) == 3)))) else (none)) else (none)) else (none)) else (none)) else (none)) else (none)) else (none))
theorem colonnadelaw16_begun.mono : ∀ k, LeO (colonnadelaw16_begun.f k ) (colonnadelaw16_begun.f (k + 1) ) := by
  intro  k
  unfold colonnadelaw16_begun.f
  repeat' first
      | (with_reducible exact lex_Tokens.mono _ _)
      | (with_reducible exact LeO.refl _)
      | (with_reducible exact LeO.none _)
      | (with_reducible refine LeO.ite ?_ ?_)
      | (with_reducible refine LeO.bind ?_ (fun _ => ?_))
      | exact lex_Tokens.mono _ _
      | exact LeO.none _
      | refine LeO.ite ?_ ?_
      | refine LeO.bind ?_ (fun _ => ?_)
set_option maxHeartbeats 8000000 in
set_option maxRecDepth 100000 in
theorem colonnadelaw16_begun.calls (k : Nat)  (r : Bool) (w : World) (h : colonnadelaw16_begun.f k  = some r) :
    Calls Tryd.prog 6 #[] w fun e w' => e = .returned (.bool r) ∧ Below w.heap.size w w' := by
  have hu25 := Tryd.underlying25
  have HB := Aside0.mk (Below.refl w.heap.size w)
  have H : ((lex_Tokens.f k (⟨#[65, 60, 62, 49, 46, 53]⟩ : ByteArray)).bind fun bt124 => (if bt124.2.2 = 0 then (if (bt124.1.length : Int) = 3 then (if 0 < (bt124.1.length : Int) then (if (((rd_T25 bt124.1 0).f0) == 1 && ((((rd_T25 bt124.1 0).f1).toList) == ([97] : List UInt8) && (((rd_T25 bt124.1 0).f2) == 0))) = true then (if 1 < (bt124.1.length : Int) then (if (((rd_T25 bt124.1 1).f0) == 4 && ((((rd_T25 bt124.1 1).f1).toList) == ([60, 62] : List UInt8) && (((rd_T25 bt124.1 1).f2) == 1))) = true then (if 2 < (bt124.1.length : Int) then (some (((rd_T25 bt124.1 2).f0) == 2 && ((((rd_T25 bt124.1 2).f1).toList) == ([49, 46, 53] : List UInt8) && (((rd_T25 bt124.1 2).f2) == 3)))) else (none)) else (none)) else (none)) else (none)) else (none)) else (none)) else (none))) = some r := h
  clear h
  replace H := Option.bind_eq_some_iff.mp H
  obtain ⟨⟨t124, t125, t126⟩, A10, H⟩ := H
  replace H : (if t126 = 0 then (if (t124.length : Int) = 3 then (if 0 < (t124.length : Int) then (if (((rd_T25 t124 0).f0) == 1 && ((((rd_T25 t124 0).f1).toList) == ([97] : List UInt8) && (((rd_T25 t124 0).f2) == 0))) = true then (if 1 < (t124.length : Int) then (if (((rd_T25 t124 1).f0) == 4 && ((((rd_T25 t124 1).f1).toList) == ([60, 62] : List UInt8) && (((rd_T25 t124 1).f2) == 1))) = true then (if 2 < (t124.length : Int) then (some (((rd_T25 t124 2).f0) == 2 && ((((rd_T25 t124 2).f1).toList) == ([49, 46, 53] : List UInt8) && (((rd_T25 t124 2).f2) == 3)))) else (none)) else (none)) else (none)) else (none)) else (none)) else (none)) else (none)) = some r := H
  have A1 := Aside0.mk A10
  clear A10
  by_cases c2 : t126 = 0
  · rw [if_pos c2] at H
    have c2b0 : (t126 == 0) = true := beq_iff_eq.mpr c2
    have c2b1 : (t126 != 0) = false := bne_eq_false_iff_eq.mpr c2
    clear c2
    by_cases c3 : (t124.length : Int) = 3
    · rw [if_pos c3] at H
      have c3b0 : ((t124.length : Int) == 3) = true := beq_iff_eq.mpr c3
      have c3b1 : ((t124.length : Int) != 3) = false := bne_eq_false_iff_eq.mpr c3
      clear c3
      by_cases c4 : 0 < (t124.length : Int)
      · rw [if_pos c4] at H
        have c4b0 : decide (0 < (t124.length : Int)) = true := decide_eq_true c4
        have c4b1 : decide (0 < t124.length) = true := decide_eq_true (by omega)
        clear c4
        by_cases c5 : (((rd_T25 t124 0).f0) == 1 && ((((rd_T25 t124 0).f1).toList) == ([97] : List UInt8) && (((rd_T25 t124 0).f2) == 0))) = true
        · rw [if_pos c5] at H
          have c5b0 : (((rd_T25 t124 0).f0) == 1 && ((((rd_T25 t124 0).f1).toList) == ([97] : List UInt8) && (((rd_T25 t124 0).f2) == 0))) = true := c5
          (try (have c5b1 : decide (((rd_T25 t124 0).f0) = 1 && ((((rd_T25 t124 0).f1).toList) == ([97] : List UInt8) && (((rd_T25 t124 0).f2) == 0))) = true := by simpa using c5))
          (try (have c5b2 : (((rd_T25 t124 0).f0) == 1 && ((((rd_T25 t124 0).f1).toList) == ([97] : List UInt8) && (((rd_T25 t124 0).f2) == 0))) = true := by simpa using c5))
          clear c5
          by_cases c6 : 1 < (t124.length : Int)
          · rw [if_pos c6] at H
            have c6b0 : decide (1 < (t124.length : Int)) = true := decide_eq_true c6
            have c6b1 : decide (1 < t124.length) = true := decide_eq_true (by omega)
            clear c6
            by_cases c7 : (((rd_T25 t124 1).f0) == 4 && ((((rd_T25 t124 1).f1).toList) == ([60, 62] : List UInt8) && (((rd_T25 t124 1).f2) == 1))) = true
            · rw [if_pos c7] at H
              have c7b0 : (((rd_T25 t124 1).f0) == 4 && ((((rd_T25 t124 1).f1).toList) == ([60, 62] : List UInt8) && (((rd_T25 t124 1).f2) == 1))) = true := c7
              (try (have c7b1 : decide (((rd_T25 t124 1).f0) = 4 && ((((rd_T25 t124 1).f1).toList) == ([60, 62] : List UInt8) && (((rd_T25 t124 1).f2) == 1))) = true := by simpa using c7))
              (try (have c7b2 : (((rd_T25 t124 1).f0) == 4 && ((((rd_T25 t124 1).f1).toList) == ([60, 62] : List UInt8) && (((rd_T25 t124 1).f2) == 1))) = true := by simpa using c7))
              clear c7
              by_cases c8 : 2 < (t124.length : Int)
              · rw [if_pos c8] at H
                have c8b0 : decide (2 < (t124.length : Int)) = true := decide_eq_true c8
                have c8b1 : decide (2 < t124.length) = true := decide_eq_true (by omega)
                clear c8
                obtain rfl := Option.some.inj H
                go_enter Tryd.func6, Tryd.ntmps6
                go_wp2_with (first | ((with_reducible refine gate_callee (f := 9) rfl ?_); refine goesL_ (some 5) rfl rfl Tryd.func9 (by kernel_rfl) rfl #[.string (⟨#[65, 60, 62, 49, 46, 53]⟩ : ByteArray)] rfl (by (try simp only [List.map_toArray, List.map_cons, List.map_nil]); first | done | rfl | (simp only [List.length_drop, List.length_take]; rfl)) ?_; (with_reducible refine (lex_Tokens.calls k (⟨#[65, 60, 62, 49, 46, 53]⟩ : ByteArray) t124 t125 t126 _ A1.out).mono ?_); rintro e w9 ⟨v127, rfl, ho0, hb⟩; refine ⟨_, rfl, ?_⟩; have n0_ := Aside0.mk (Kd.R_lower ho0 (below_size (by repeat (first | (with_reducible first | exact HB.out | apply below_alloc | apply pw_below_drewN | apply below_drew1) | exact HB.out)))); have n1_ := Aside0.mk (below_step (by repeat (first | (with_reducible first | exact HB.out | apply below_alloc | apply pw_below_drewN | apply below_drew1) | exact HB.out)) hb); clear HB; have HO128 := n0_; have HB := n1_; clear n0_ n1_; (try clear hb); (try clear hb2); (try clear hk); (try clear hi); (try clear ho0); obtain ⟨Ao10, co10, eo10⟩ := Kd.R_slice HO128.out; subst eo10; have p129 : 0 ≤ (0 : Int) := (by omega); have q129 : 0 < (t124.length : Int) := of_decide_eq_true (by first | (with_reducible assumption) | assumption); obtain ⟨ad129, e129, hx129_0, hx129_1, hx129_2⟩ := at_T25 (Kd.R_reads' HO128.out).2.2 0 p129 q129; cases e129; have qi129 : (0 < t124.length) = True := eq_true (by omega); (try rw [show ((0 : Int)).toNat = 0 from rfl] at hx129_0); (try rw [show 0 * 3 = 0 from rfl] at hx129_0); (try rw [Addr.add_zero'] at hx129_0); (try rw [show ((0 : Int)).toNat = 0 from rfl] at hx129_1); (try rw [show 0 * 3 = 0 from rfl] at hx129_1); (try rw [Addr.add_zero'] at hx129_1); (try rw [show ((0 : Int)).toNat = 0 from rfl] at hx129_2); (try rw [show 0 * 3 = 0 from rfl] at hx129_2); (try rw [Addr.add_zero'] at hx129_2); replace p129 := eq_true p129; replace q129 := eq_true q129; have p130 : 0 ≤ (1 : Int) := (by omega); have q130 : 1 < (t124.length : Int) := of_decide_eq_true (by first | (with_reducible assumption) | assumption); obtain ⟨ad130, e130, hx130_0, hx130_1, hx130_2⟩ := at_T25 (Kd.R_reads' HO128.out).2.2 1 p130 q130; obtain rfl : ad129 = ad130 := (by injection e130); (try simp only [show (1 : Int).toNat = 1 from rfl, Nat.reduceMul, Nat.reduceEqDiff, Go.Addr.add, ↓reduceIte] at hx130_0); (try simp only [show (1 : Int).toNat = 1 from rfl, Nat.reduceMul, Nat.reduceEqDiff, Go.Addr.add, ↓reduceIte] at hx130_1); (try simp only [show (1 : Int).toNat = 1 from rfl, Nat.reduceMul, Nat.reduceEqDiff, Go.Addr.add, ↓reduceIte] at hx130_2); have qi130 : (1 < t124.length) = True := eq_true (by omega); (try rw [show ((1 : Int)).toNat = 1 from rfl] at hx130_0); (try rw [show 1 * 3 = 3 from rfl] at hx130_0); (try rw [show ((1 : Int)).toNat = 1 from rfl] at hx130_1); (try rw [show 1 * 3 = 3 from rfl] at hx130_1); (try rw [show ((1 : Int)).toNat = 1 from rfl] at hx130_2); (try rw [show 1 * 3 = 3 from rfl] at hx130_2); replace p130 := eq_true p130; replace q130 := eq_true q130; have p131 : 0 ≤ (2 : Int) := (by omega); have q131 : 2 < (t124.length : Int) := of_decide_eq_true (by first | (with_reducible assumption) | assumption); obtain ⟨ad131, e131, hx131_0, hx131_1, hx131_2⟩ := at_T25 (Kd.R_reads' HO128.out).2.2 2 p131 q131; obtain rfl : ad129 = ad131 := (by injection e131); (try simp only [show (2 : Int).toNat = 2 from rfl, Nat.reduceMul, Nat.reduceEqDiff, Go.Addr.add, ↓reduceIte] at hx131_0); (try simp only [show (2 : Int).toNat = 2 from rfl, Nat.reduceMul, Nat.reduceEqDiff, Go.Addr.add, ↓reduceIte] at hx131_1); (try simp only [show (2 : Int).toNat = 2 from rfl, Nat.reduceMul, Nat.reduceEqDiff, Go.Addr.add, ↓reduceIte] at hx131_2); have qi131 : (2 < t124.length) = True := eq_true (by omega); (try rw [show ((2 : Int)).toNat = 2 from rfl] at hx131_0); (try rw [show 2 * 3 = 6 from rfl] at hx131_0); (try rw [show ((2 : Int)).toNat = 2 from rfl] at hx131_1); (try rw [show 2 * 3 = 6 from rfl] at hx131_1); (try rw [show ((2 : Int)).toNat = 2 from rfl] at hx131_2); (try rw [show 2 * 3 = 6 from rfl] at hx131_2); replace p131 := eq_true p131; replace q131 := eq_true q131))
                go_ret
                exact ⟨by first | rfl | (simp [errW_none, errW_some] <;> rfl) | (simp [*, errW_none, errW_some] <;> rfl), by repeat (first | (with_reducible first | exact HB.out | apply below_alloc | apply pw_below_drewN | apply below_drew1) | exact HB.out)⟩
              · rw [if_neg c8] at H
                exact absurd H (by simp)
            · rw [if_neg c7] at H
              exact absurd H (by simp)
          · rw [if_neg c6] at H
            exact absurd H (by simp)
        · rw [if_neg c5] at H
          exact absurd H (by simp)
      · rw [if_neg c4] at H
        exact absurd H (by simp)
    · rw [if_neg c3] at H
      exact absurd H (by simp)
  · rw [if_neg c2] at H
    exact absurd H (by simp)

/-! ### strings_ReplaceAll: function 17, by hand -/
def strings_ReplaceAll.f (a0 : ByteArray) (a1 : ByteArray) (a2 : ByteArray) : Option (ByteArray) := if a0.size < 4294967281 ∧ 1 ≤ a1.size ∧ a0.size + Lib.countB a0 a1 * a2.size ≤ 140737488355328 then some ⟨(Lib.replaceAll a0.data.toList a1.data.toList a2.data.toList).toArray⟩ else none
theorem strings_ReplaceAll.calls (a0 : ByteArray) (a1 : ByteArray) (a2 : ByteArray) (r : ByteArray) (w : World) (h : strings_ReplaceAll.f a0 a1 a2 = some r) (hG : Gl w) :
    Calls Tryd.prog 17 #[.string a0, .string a1, .string a2] w fun e w' => e = .returned (.string r) ∧ Below w.heap.size w w' := by
  unfold strings_ReplaceAll.f at h
  by_cases h1 : a0.size < 4294967281 ∧ 1 ≤ a1.size ∧ a0.size + Lib.countB a0 a1 * a2.size ≤ 140737488355328
  · rw [if_pos h1] at h
    obtain rfl := Option.some.inj h
    obtain ⟨m, hm⟩ := hG.len
    exact Tryd.strings_ReplaceAll a0 a1 a2 m w h1.1 hm h1.2.1 h1.2.2
  · rw [if_neg h1] at h; exact absurd h (by simp)


/-! ### strings_Join: function 18, by hand -/
def strings_Join.f (l0 : List ByteArray) (a1 : ByteArray) : Option (ByteArray) := if l0.length ≤ 140737488355328 ∧ (Lib.join (l0.map (·.data.toList)) a1.data.toList).length ≤ 140737488355328 then some ⟨(Lib.join (l0.map (·.data.toList)) a1.data.toList).toArray⟩ else none
theorem strings_Join.calls (A0 : Option Addr) (c0 : Nat) (l0 : List ByteArray) (a1 : ByteArray) (r : ByteArray) (w : World) (hr0 : Kd.C Kd.string w A0 l0.length l0) (hc0 : l0.length ≤ c0) (h : strings_Join.f l0 a1 = some r) :
    Calls Tryd.prog 18 #[.slice A0 l0.length c0, .string a1] w fun e w' => e = .returned (.string r) ∧ Below w.heap.size w w' := by
  unfold strings_Join.f at h
  by_cases h1 : l0.length ≤ 140737488355328 ∧ (Lib.join (l0.map (·.data.toList)) a1.data.toList).length ≤ 140737488355328
  · rw [if_pos h1] at h
    obtain rfl := Option.some.inj h
    have hat : ∀ j : Nat, j < l0.length → ∃ ad, A0 = some ad ∧ w.cell? (ad.add j) = some (.string (l0.getD j ⟨#[]⟩)) := by
      intro j hj
      obtain ⟨ad, c, e, hl, hK, hc⟩ := Kd.C_get hr0 (⟨#[]⟩ : ByteArray) (j : Int) (by omega) (by omega)
      refine ⟨ad, e, ?_⟩
      have hK' : c = [.string (l0.getD j ⟨#[]⟩)] := hK
      have := hc 0 (.string (l0.getD j ⟨#[]⟩)) (by rw [hK']; rfl)
      simpa [Kd.string, Kd.scalar] using this
    cases hl : l0 with
    | nil =>
      subst hl
      refine (Tryd.strings_Join_none A0 c0 a1 w).mono ?_
      rintro e w' ⟨rfl, rfl⟩
      exact ⟨rfl, Below.refl _ _⟩
    | cons x xs =>
      rw [← hl]
      obtain ⟨ad, rfl, h0⟩ := hat 0 (by rw [hl]; simp)
      obtain ⟨bk, o, sp⟩ := ad
      have h0' : w.cell? ⟨bk, o, sp⟩ = some (.string (l0.getD 0 ⟨#[]⟩)) := by simpa [Addr.add] using h0
      have hsp : sp = none := by
        unfold World.cell? at h0'
        cases ho : w.heap[bk]? with
        | none => simp [ho] at h0'
        | some ob =>
          cases ob <;> simp [ho] at h0'
          cases sp with
          | none => rfl
          | some q => simp at h0'
      subst hsp
      have hb : bk < w.heap.size := by
        unfold World.cell? at h0'
        cases ho : w.heap[bk]? with
        | none => simp [ho] at h0'
        | some ob => exact (Array.getElem?_eq_some_iff.1 ho).1
      refine Tryd.strings_Join bk o c0 l0 a1 w ?_ hb h1.1 hc0 h1.2
      intro j x hj
      have hlt : j < l0.length := (List.getElem?_eq_some_iff.1 hj).1
      obtain ⟨ad', e', h'⟩ := hat j hlt
      obtain rfl := Option.some.inj e'
      rw [List.getD_eq_getElem?_getD, hj] at h'
      by_cases hz : j = 0
      · subst hz; simpa [Addr.add] using h'
      · simpa [Addr.add, hz] using h'
  · rw [if_neg h1] at h; exact absurd h (by simp)


end Go.Proofs.YtmpamcfeijnafaaDoor.R
