/- PRINTED BY A PROGRAM OF THIS SESSION (px.py, over the kit's print): Lean functions with the answers of Go functions of the given program, and proofs that the Go code comes to these answers; each under the conditions that its theorem states. -/
import Derived.Test.YtmeopdjdjmjngaaGreatDoorA0
import Derived.Test.YtmeopdjdjmjngaaGreatDoorA4
namespace Go.Proofs.YtmeopdjdjmjngaaGreatDoor.A
open Go.RowKit Go.Proofs.YtmeopdjdjmjngaaGreatDoorW.PrintWords Go.Proofs.YtmeopdjdjmjngaaGreatDoorW.PrintLast Go.Proofs.YtmeopdjdjmjngaaGreatDoorW.PrintMore
attribute [local go_sem] max2_int min2_int max_two min_two max_three min_three max_four min_four   -- for this text's walks alone
set_option linter.unusedVariables false
set_option linter.unusedSimpArgs false

/-! ### colonnaderef11_Show: function 17 -/
def colonnaderef11_Show.l0 : Nat → ByteArray → Int → ByteArray → List (S36) → Option (ByteArray)
  | 0, _, _, _, _ => none
  | k + 1, x3, x4, x204000, x204001 => if x4 < (x204001.length : Int) then (if x4 > 0 then (if x3.size + 2 ≤ 9223372036854775807 then (if 0 ≤ x4 then (if ((rd_T36 x204001 x4).f0).size + 1 ≤ 9223372036854775807 then ((colonnaderef11_TypeName.f k ((rd_T36 x204001 x4).f1.f0) ((rd_T36 x204001 x4).f1.f1)).bind fun t206 => (if (((rd_T36 x204001 x4).f0) ++ (⟨#[32]⟩ : ByteArray)).size + t206.size ≤ 9223372036854775807 then (if (x3 ++ (⟨#[44, 32]⟩ : ByteArray)).size + ((((rd_T36 x204001 x4).f0) ++ (⟨#[32]⟩ : ByteArray)) ++ t206).size ≤ 9223372036854775807 then (if (rd_T36 x204001 x4).f2 = true then (if ((x3 ++ (⟨#[44, 32]⟩ : ByteArray)) ++ ((((rd_T36 x204001 x4).f0) ++ (⟨#[32]⟩ : ByteArray)) ++ t206)).size + 9 ≤ 9223372036854775807 then (colonnaderef11_Show.l0 k (((x3 ++ (⟨#[44, 32]⟩ : ByteArray)) ++ ((((rd_T36 x204001 x4).f0) ++ (⟨#[32]⟩ : ByteArray)) ++ t206)) ++ (⟨#[32, 78, 79, 84, 32, 78, 85, 76, 76]⟩ : ByteArray)) (wrap64 (x4 + 1)) x204000 x204001) else (none)) else (colonnaderef11_Show.l0 k ((x3 ++ (⟨#[44, 32]⟩ : ByteArray)) ++ ((((rd_T36 x204001 x4).f0) ++ (⟨#[32]⟩ : ByteArray)) ++ t206)) (wrap64 (x4 + 1)) x204000 x204001)) else (none)) else (none))) else (none)) else (none)) else (none)) else (if 0 ≤ x4 then (if ((rd_T36 x204001 x4).f0).size + 1 ≤ 9223372036854775807 then ((colonnaderef11_TypeName.f k ((rd_T36 x204001 x4).f1.f0) ((rd_T36 x204001 x4).f1.f1)).bind fun t210 => (if (((rd_T36 x204001 x4).f0) ++ (⟨#[32]⟩ : ByteArray)).size + t210.size ≤ 9223372036854775807 then (if x3.size + ((((rd_T36 x204001 x4).f0) ++ (⟨#[32]⟩ : ByteArray)) ++ t210).size ≤ 9223372036854775807 then (if (rd_T36 x204001 x4).f2 = true then (if (x3 ++ ((((rd_T36 x204001 x4).f0) ++ (⟨#[32]⟩ : ByteArray)) ++ t210)).size + 9 ≤ 9223372036854775807 then (colonnaderef11_Show.l0 k ((x3 ++ ((((rd_T36 x204001 x4).f0) ++ (⟨#[32]⟩ : ByteArray)) ++ t210)) ++ (⟨#[32, 78, 79, 84, 32, 78, 85, 76, 76]⟩ : ByteArray)) (wrap64 (x4 + 1)) x204000 x204001) else (none)) else (colonnaderef11_Show.l0 k (x3 ++ ((((rd_T36 x204001 x4).f0) ++ (⟨#[32]⟩ : ByteArray)) ++ t210)) (wrap64 (x4 + 1)) x204000 x204001)) else (none)) else (none))) else (none)) else (none))) else (if x3.size + 1 ≤ 9223372036854775807 then (some (x3 ++ (⟨#[41]⟩ : ByteArray))) else (none))
def colonnaderef11_Show.f (k : Nat) (a0_0 : ByteArray) (l0_1 : List (S36)) : Option (ByteArray) := if 13 + a0_0.size ≤ 9223372036854775807 then (if ((⟨#[67, 82, 69, 65, 84, 69, 32, 84, 65, 66, 76, 69, 32]⟩ : ByteArray) ++ a0_0).size + 2 ≤ 9223372036854775807 then (colonnaderef11_Show.l0 k (((⟨#[67, 82, 69, 65, 84, 69, 32, 84, 65, 66, 76, 69, 32]⟩ : ByteArray) ++ a0_0) ++ (⟨#[32, 40]⟩ : ByteArray)) 0 a0_0 l0_1) else (none)) else (none)
theorem colonnaderef11_Show.mono_l : ∀ k, (∀ y0 y1 y2 y3, LeO (colonnaderef11_Show.l0 k y0 y1 y2 y3) (colonnaderef11_Show.l0 (k + 1) y0 y1 y2 y3))
  | 0 => fun _ _ _ _ r h => by simp [colonnaderef11_Show.l0] at h
  | k + 1 => by
    have ih0 := colonnaderef11_Show.mono_l k
    · intro y0 y1 y2 y3
      unfold colonnaderef11_Show.l0
      repeat' first
      | (with_reducible exact ih0 _ _ _ _)
      | (with_reducible exact colonnaderef11_TypeName.mono _ _ _)
      | (with_reducible exact LeO.refl _)
      | (with_reducible exact LeO.none _)
      | (with_reducible refine LeO.ite ?_ ?_)
      | (with_reducible refine LeO.bind ?_ (fun _ => ?_))
      | exact ih0 _ _ _ _
      | exact colonnaderef11_TypeName.mono _ _ _
      | exact LeO.none _
      | refine LeO.ite ?_ ?_
      | refine LeO.bind ?_ (fun _ => ?_)
theorem colonnaderef11_Show.mono : ∀ a0 a1 k, LeO (colonnaderef11_Show.f k a0 a1) (colonnaderef11_Show.f (k + 1) a0 a1) := by
  intro a0 a1 k
  have ih0 := colonnaderef11_Show.mono_l k
  unfold colonnaderef11_Show.f
  repeat' first
      | (with_reducible exact ih0 _ _ _ _)
      | (with_reducible exact colonnaderef11_TypeName.mono _ _ _)
      | (with_reducible exact LeO.refl _)
      | (with_reducible exact LeO.none _)
      | (with_reducible refine LeO.ite ?_ ?_)
      | (with_reducible refine LeO.bind ?_ (fun _ => ?_))
      | exact ih0 _ _ _ _
      | exact colonnaderef11_TypeName.mono _ _ _
      | exact LeO.none _
      | refine LeO.ite ?_ ?_
      | refine LeO.bind ?_ (fun _ => ?_)
def colonnaderef11_Show.T7 : Bool × List (List Nat × List Nat) := (true, [([], []), ([], []), ([1], [1]), ([], []), ([2, 3], [2, 3]), ([4], [4]), ([5], [5]), ([6], [6]), ([], []), ([8], [8]), ([], []), ([9, 10], [9, 10]), ([11], [11]), ([12], [12]), ([13], [13]), ([7, 14], [7, 14]), ([0, 15], [0, 15]), ([16, 14, 0, 1, 2, 3, 4, 5, 6, 7, 8, 9, 10, 11, 12, 13, 14, 15, 16], [0, 16])])
def colonnaderef11_Show.B7 : List Nat := [0, 0, 2, 0, 14, 30, 62, 126, 0, 256, 0, 1792, 3840, 7936, 16128, 32766, 65535, 131071]
theorem colonnaderef11_Show.tab7 : rtab .any (opsOf Tryz.f17 7) = colonnaderef11_Show.T7 := by kernel_rfl
theorem colonnaderef11_Show.bits7 : waitsOk colonnaderef11_Show.T7.2 colonnaderef11_Show.B7 = true := by kernel_rfl
set_option maxHeartbeats 8000000 in
set_option maxRecDepth 100000 in
theorem colonnaderef11_Show.calls (k : Nat) (a0_0 : ByteArray) (A0_1 : Option Addr) (c0_1 : Nat) (l0_1 : List (S36)) (r : ByteArray) (w : World) (hr0_1 : Kd.C k36 w A0_1 l0_1.length l0_1) (hc0_1 : l0_1.length ≤ c0_1) (h : colonnaderef11_Show.f k a0_0 l0_1 = some r) :
    Calls Tryz.prog 17 #[.agg #[.string a0_0, .slice A0_1 l0_1.length c0_1]] w fun e w' => e = .returned (.string r) ∧ Below w.heap.size w w' := by
  have hu24 := Tryz.underlying24
  have hu34 := Tryz.underlying34
  have HR0_1 := Aside0.mk hr0_1
  have HC0_1 := Aside0.mk hc0_1
  clear hr0_1 hc0_1
  have HB := Aside0.mk (Below.refl w.heap.size w)
  have H : (if 13 + a0_0.size ≤ 9223372036854775807 then (if ((⟨#[67, 82, 69, 65, 84, 69, 32, 84, 65, 66, 76, 69, 32]⟩ : ByteArray) ++ a0_0).size + 2 ≤ 9223372036854775807 then (colonnaderef11_Show.l0 k (((⟨#[67, 82, 69, 65, 84, 69, 32, 84, 65, 66, 76, 69, 32]⟩ : ByteArray) ++ a0_0) ++ (⟨#[32, 40]⟩ : ByteArray)) 0 a0_0 l0_1) else (none)) else (none)) = some r := h
  clear h
  by_cases c2 : 13 + a0_0.size ≤ 9223372036854775807
  · rw [if_pos c2] at H
    have c2b0 := eq_true c2
    (try (have c2n := c2; simp [size_lit] at c2n))
    (try (have c2m := eq_false (Nat.not_lt.2 c2); simp only [ByteArray.size_append, size_lit, List.length_cons, List.length_nil, Nat.reduceAdd, Nat.zero_add] at c2m))
    have c2b1 : decide (13 + a0_0.size ≤ 9223372036854775807) = true := decide_eq_true c2
    try have c2b2 : (9223372036854775807 < 13 + a0_0.size) = False := eq_false (Nat.not_lt.2 c2)
    by_cases c3 : ((⟨#[67, 82, 69, 65, 84, 69, 32, 84, 65, 66, 76, 69, 32]⟩ : ByteArray) ++ a0_0).size + 2 ≤ 9223372036854775807
    · rw [if_pos c3] at H
      have c3b0 := eq_true c3
      (try (have c3n := c3; simp [size_lit] at c3n))
      (try (have c3m := eq_false (Nat.not_lt.2 c3); simp only [ByteArray.size_append, size_lit, List.length_cons, List.length_nil, Nat.reduceAdd, Nat.zero_add] at c3m))
      have c3b1 : decide (((⟨#[67, 82, 69, 65, 84, 69, 32, 84, 65, 66, 76, 69, 32]⟩ : ByteArray) ++ a0_0).size + 2 ≤ 9223372036854775807) = true := decide_eq_true c3
      try have c3b2 : (9223372036854775807 < ((⟨#[67, 82, 69, 65, 84, 69, 32, 84, 65, 66, 76, 69, 32]⟩ : ByteArray) ++ a0_0).size + 2) = False := eq_false (Nat.not_lt.2 c3)
      have H' := Aside0.mk H
      clear H
      go_enter Tryz.func17, Tryz.ntmps17
      go_wp2_with (first | ((with_reducible refine gate_dst (N := 1) rfl ?_); refine box_event ?hg (N := 1) ?hd (cs := #[.string a0_0, .slice A0_1 l0_1.length c0_1]) (t := 24) ?hr ?_; (case hd => rfl); (case hg => rfl); (case hr => first | (go_simp; done) | (go_simp; rfl)); intro gb203 hg w4 hbox hb; have n0_ := Aside0.mk (below_step (by repeat (first | (with_reducible first | exact HB.out | apply below_alloc | apply pw_below_drewN | apply below_drew1) | exact HB.out)) hb); have n1_ := Aside0.mk (hbox); have n2_ := Aside0.mk ((by rw [hg]; exact (below_size (by repeat (first | (with_reducible first | exact HB.out | apply below_alloc | apply pw_below_drewN | apply below_drew1) | exact HB.out))) : w.heap.size ≤ gb203)); have n3_ := Aside0.mk ((by rw [hg]; exact (below_size (by repeat (first | (with_reducible first | exact HB.out | apply below_alloc | apply pw_below_drewN | apply below_drew1) | exact HB.out))) : w.heap.size ≤ gb203)); clear HB; have HB := n0_; have BK203 := n1_; have GW203 := n2_; have GE203 := n3_; clear n0_ n1_ n2_ n3_; clear hb hbox hg; have hcz5_0 : w4.cell? ⟨gb203, 0, none⟩ = some (.string a0_0) := (blk_cell BK203.out 0).trans rfl; have hcz5_1 : w4.cell? ⟨gb203, 1, none⟩ = some (.slice A0_1 l0_1.length c0_1) := (blk_cell BK203.out 1).trans rfl; have hfz5_0 := blk_frozen BK203.out 0; have hfz5_1 := blk_frozen BK203.out 1))
      go_loopg [3, 4] k (fun kq v3 v4 w' => ∃ (x3_1 : ByteArray) (x4_1 : Int), v3 = .string x3_1 ∧ v4 = .int .i64 x4_1 ∧ Aside0 (colonnaderef11_Show.l0 kq x3_1 x4_1 a0_0 l0_1 = some r) ∧ Aside0 (kq ≤ k) ∧ Aside0 (w'.heap[gb203]? = some (.cells #[.string a0_0, (.slice A0_1 l0_1.length c0_1)] 24 (0, 0))) ∧ Aside0 (Below w.heap.size w w'))
      case atStart => exact ⟨(((⟨#[67, 82, 69, 65, 84, 69, 32, 84, 65, 66, 76, 69, 32]⟩ : ByteArray) ++ a0_0) ++ (⟨#[32, 40]⟩ : ByteArray)), (0), (by first | rfl | (simp; done) | (simp [*]; done)), (by first | rfl | (simp; done) | (simp [*]; done)), H', ⟨Nat.le_refl _⟩, ⟨by (with_reducible repeat (first | refine blk_drewN ?_ _ | refine blk_drew ?_ | refine blk_alloc ?_ _)); exact BK203.out⟩, ⟨by repeat (first | (with_reducible first | exact HB.out | apply below_alloc | apply pw_below_drewN | apply below_drew1 | refine below_set ?_ GE203.out) | exact HB.out)⟩⟩
      case round =>
        clear H'
        try clear c1
        try clear c2
        try clear c2b0
        try clear c2b1
        try clear c2b2
        try clear p2
        try clear c3
        try clear c3b0
        try clear c3b1
        try clear c3b2
        try clear hcz5_0
        try clear hcz5_1
        try clear hfz5_0
        try clear hfz5_1
        obtain ⟨x3_1, x4_1, rfl, rfl, HA, HK1, BK203, HB⟩ := hrel
        cases gk with
        | zero => exact absurd HA.out (by simp [colonnaderef11_Show.l0])
        | succ k1 =>
          have H := HA.out
          clear HA
          simp only [colonnaderef11_Show.l0] at H
          by_cases c6 : x4_1 < (l0_1.length : Int)
          · rw [if_pos c6] at H
            have c6b0 : decide (x4_1 < (l0_1.length : Int)) = true := decide_eq_true c6
            clear c6
            by_cases c7 : x4_1 > 0
            · rw [if_pos c7] at H
              have c7b0 : decide (0 < x4_1) = true := decide_eq_true c7
              clear c7
              by_cases c8 : x3_1.size + 2 ≤ 9223372036854775807
              · rw [if_pos c8] at H
                have c8b0 := eq_true c8
                (try (have c8n := c8; simp [size_lit] at c8n))
                (try (have c8m := eq_false (Nat.not_lt.2 c8); simp only [ByteArray.size_append, size_lit, List.length_cons, List.length_nil, Nat.reduceAdd, Nat.zero_add] at c8m))
                have c8b1 : decide (x3_1.size + 2 ≤ 9223372036854775807) = true := decide_eq_true c8
                try have c8b2 : (9223372036854775807 < x3_1.size + 2) = False := eq_false (Nat.not_lt.2 c8)
                by_cases c9 : 0 ≤ x4_1
                · rw [if_pos c9] at H
                  have c9b0 : decide (0 ≤ x4_1) = true := decide_eq_true c9
                  clear c9
                  by_cases c10 : ((rd_T36 l0_1 x4_1).f0).size + 1 ≤ 9223372036854775807
                  · rw [if_pos c10] at H
                    have c10b0 := eq_true c10
                    (try (have c10n := c10; simp [size_lit] at c10n))
                    (try (have c10m := eq_false (Nat.not_lt.2 c10); simp only [ByteArray.size_append, size_lit, List.length_cons, List.length_nil, Nat.reduceAdd, Nat.zero_add] at c10m))
                    have c10b1 : decide (((rd_T36 l0_1 x4_1).f0).size + 1 ≤ 9223372036854775807) = true := decide_eq_true c10
                    try have c10b2 : (9223372036854775807 < ((rd_T36 l0_1 x4_1).f0).size + 1) = False := eq_false (Nat.not_lt.2 c10)
                    replace H := Option.bind_eq_some_iff.mp H
                    obtain ⟨t206, A110, H⟩ := H
                    replace H : (if (((rd_T36 l0_1 x4_1).f0) ++ (⟨#[32]⟩ : ByteArray)).size + t206.size ≤ 9223372036854775807 then (if (x3_1 ++ (⟨#[44, 32]⟩ : ByteArray)).size + ((((rd_T36 l0_1 x4_1).f0) ++ (⟨#[32]⟩ : ByteArray)) ++ t206).size ≤ 9223372036854775807 then (if (rd_T36 l0_1 x4_1).f2 = true then (if ((x3_1 ++ (⟨#[44, 32]⟩ : ByteArray)) ++ ((((rd_T36 l0_1 x4_1).f0) ++ (⟨#[32]⟩ : ByteArray)) ++ t206)).size + 9 ≤ 9223372036854775807 then (colonnaderef11_Show.l0 k1 (((x3_1 ++ (⟨#[44, 32]⟩ : ByteArray)) ++ ((((rd_T36 l0_1 x4_1).f0) ++ (⟨#[32]⟩ : ByteArray)) ++ t206)) ++ (⟨#[32, 78, 79, 84, 32, 78, 85, 76, 76]⟩ : ByteArray)) (wrap64 (x4_1 + 1)) a0_0 l0_1) else (none)) else (colonnaderef11_Show.l0 k1 ((x3_1 ++ (⟨#[44, 32]⟩ : ByteArray)) ++ ((((rd_T36 l0_1 x4_1).f0) ++ (⟨#[32]⟩ : ByteArray)) ++ t206)) (wrap64 (x4_1 + 1)) a0_0 l0_1)) else (none)) else (none)) = some r := H
                    have A11 := Aside0.mk A110
                    clear A110
                    by_cases c12 : (((rd_T36 l0_1 x4_1).f0) ++ (⟨#[32]⟩ : ByteArray)).size + t206.size ≤ 9223372036854775807
                    · rw [if_pos c12] at H
                      have c12b0 := eq_true c12
                      (try (have c12n := c12; simp [size_lit] at c12n))
                      (try (have c12m := eq_false (Nat.not_lt.2 c12); simp only [ByteArray.size_append, size_lit, List.length_cons, List.length_nil, Nat.reduceAdd, Nat.zero_add] at c12m))
                      have c12b1 : decide ((((rd_T36 l0_1 x4_1).f0) ++ (⟨#[32]⟩ : ByteArray)).size + t206.size ≤ 9223372036854775807) = true := decide_eq_true c12
                      try have c12b2 : (9223372036854775807 < (((rd_T36 l0_1 x4_1).f0) ++ (⟨#[32]⟩ : ByteArray)).size + t206.size) = False := eq_false (Nat.not_lt.2 c12)
                      by_cases c13 : (x3_1 ++ (⟨#[44, 32]⟩ : ByteArray)).size + ((((rd_T36 l0_1 x4_1).f0) ++ (⟨#[32]⟩ : ByteArray)) ++ t206).size ≤ 9223372036854775807
                      · rw [if_pos c13] at H
                        have c13b0 := eq_true c13
                        (try (have c13n := c13; simp [size_lit] at c13n))
                        (try (have c13m := eq_false (Nat.not_lt.2 c13); simp only [ByteArray.size_append, size_lit, List.length_cons, List.length_nil, Nat.reduceAdd, Nat.zero_add] at c13m))
                        have c13b1 : decide ((x3_1 ++ (⟨#[44, 32]⟩ : ByteArray)).size + ((((rd_T36 l0_1 x4_1).f0) ++ (⟨#[32]⟩ : ByteArray)) ++ t206).size ≤ 9223372036854775807) = true := decide_eq_true c13
                        try have c13b2 : (9223372036854775807 < (x3_1 ++ (⟨#[44, 32]⟩ : ByteArray)).size + ((((rd_T36 l0_1 x4_1).f0) ++ (⟨#[32]⟩ : ByteArray)) ++ t206).size) = False := eq_false (Nat.not_lt.2 c13)
                        obtain ⟨bq14, hbq14⟩ : ∃ b_ : Bool, b_ = ((rd_T36 l0_1 x4_1).f2) := ⟨_, rfl⟩
                        replace H : (if bq14 = true then (if ((x3_1 ++ (⟨#[44, 32]⟩ : ByteArray)) ++ ((((rd_T36 l0_1 x4_1).f0) ++ (⟨#[32]⟩ : ByteArray)) ++ t206)).size + 9 ≤ 9223372036854775807 then (colonnaderef11_Show.l0 k1 (((x3_1 ++ (⟨#[44, 32]⟩ : ByteArray)) ++ ((((rd_T36 l0_1 x4_1).f0) ++ (⟨#[32]⟩ : ByteArray)) ++ t206)) ++ (⟨#[32, 78, 79, 84, 32, 78, 85, 76, 76]⟩ : ByteArray)) (wrap64 (x4_1 + 1)) a0_0 l0_1) else (none)) else (colonnaderef11_Show.l0 k1 ((x3_1 ++ (⟨#[44, 32]⟩ : ByteArray)) ++ ((((rd_T36 l0_1 x4_1).f0) ++ (⟨#[32]⟩ : ByteArray)) ++ t206)) (wrap64 (x4_1 + 1)) a0_0 l0_1)) = some r := by rw [← hbq14] at H; exact H
                        have Nbq14 := Aside0.mk hbq14
                        clear hbq14
                        by_cases c15 : bq14 = true
                        · subst c15
                          have H1 : (if ((x3_1 ++ (⟨#[44, 32]⟩ : ByteArray)) ++ ((((rd_T36 l0_1 x4_1).f0) ++ (⟨#[32]⟩ : ByteArray)) ++ t206)).size + 9 ≤ 9223372036854775807 then (colonnaderef11_Show.l0 k1 (((x3_1 ++ (⟨#[44, 32]⟩ : ByteArray)) ++ ((((rd_T36 l0_1 x4_1).f0) ++ (⟨#[32]⟩ : ByteArray)) ++ t206)) ++ (⟨#[32, 78, 79, 84, 32, 78, 85, 76, 76]⟩ : ByteArray)) (wrap64 (x4_1 + 1)) a0_0 l0_1) else (none)) = some r := by rw [if_pos rfl] at H; exact H
                          clear H
                          have H := H1
                          clear H1
                          by_cases c16 : ((x3_1 ++ (⟨#[44, 32]⟩ : ByteArray)) ++ ((((rd_T36 l0_1 x4_1).f0) ++ (⟨#[32]⟩ : ByteArray)) ++ t206)).size + 9 ≤ 9223372036854775807
                          · rw [if_pos c16] at H
                            have c16b0 := eq_true c16
                            (try (have c16n := c16; simp [size_lit] at c16n))
                            (try (have c16m := eq_false (Nat.not_lt.2 c16); simp only [ByteArray.size_append, size_lit, List.length_cons, List.length_nil, Nat.reduceAdd, Nat.zero_add] at c16m))
                            have c16b1 : decide (((x3_1 ++ (⟨#[44, 32]⟩ : ByteArray)) ++ ((((rd_T36 l0_1 x4_1).f0) ++ (⟨#[32]⟩ : ByteArray)) ++ t206)).size + 9 ≤ 9223372036854775807) = true := decide_eq_true c16
                            try have c16b2 : (9223372036854775807 < ((x3_1 ++ (⟨#[44, 32]⟩ : ByteArray)) ++ ((((rd_T36 l0_1 x4_1).f0) ++ (⟨#[32]⟩ : ByteArray)) ++ t206)).size + 9) = False := eq_false (Nat.not_lt.2 c16)
                            have H' := Aside0.mk H
                            clear H
                            have hcz17_0 : wr.cell? ⟨gb203, 0, none⟩ = some (.string a0_0) := (blk_cell BK203.out 0).trans rfl
                            have hcz17_1 : wr.cell? ⟨gb203, 1, none⟩ = some (.slice A0_1 l0_1.length c0_1) := (blk_cell BK203.out 1).trans rfl
                            have hfz17_0 := blk_frozen BK203.out 0
                            have hfz17_1 := blk_frozen BK203.out 1
                            try go_wp2
                            have n0_ := Aside0.mk (blk_drew BK203.out)
                            have n1_ := Aside0.mk (below_drew1 HB.out)
                            clear BK203
                            clear HB
                            have BK203 := n0_
                            have HB := n1_
                            clear n0_ n1_
                            have p204 : 0 ≤ (x4_1 : Int) := of_decide_eq_true (by first | (with_reducible assumption) | assumption)
                            have q204 : x4_1 < (l0_1.length : Int) := of_decide_eq_true (by first | (with_reducible assumption) | assumption)
                            obtain ⟨ad204, e204, hx204_0, hx204_1, hx204_2, hx204_3⟩ := at_T36 HR0_1.out x4_1 p204 q204
                            have hw204_3 := hx204_3
                            have hw204_2 := hx204_2
                            have hw204_1 := hx204_1
                            have hw204_0 := hx204_0
                            (try rw [← Nbq14.out] at hx204_3)
                            cases e204
                            replace hx204_0 := (HB.out.cell (World.block_lt_of_cell? w _ hx204_0)).trans hx204_0
                            replace hx204_1 := (HB.out.cell (World.block_lt_of_cell? w _ hx204_1)).trans hx204_1
                            replace hx204_2 := (HB.out.cell (World.block_lt_of_cell? w _ hx204_2)).trans hx204_2
                            replace hx204_3 := (HB.out.cell (World.block_lt_of_cell? w _ hx204_3)).trans hx204_3
                            replace p204 := eq_true p204
                            replace q204 := eq_true q204
                            have p205 : 0 ≤ (x4_1 : Int) := of_decide_eq_true (by first | (with_reducible assumption) | assumption)
                            have q205 : x4_1 < (l0_1.length : Int) := of_decide_eq_true (by first | (with_reducible assumption) | assumption)
                            obtain ⟨ad205, e205, hx205_0, hx205_1, hx205_2, hx205_3⟩ := at_T36 HR0_1.out x4_1 p205 q205
                            have hw205_3 := hx205_3
                            have hw205_2 := hx205_2
                            have hw205_1 := hx205_1
                            have hw205_0 := hx205_0
                            (try rw [← Nbq14.out] at hx205_3)
                            obtain rfl : ad204 = ad205 := (by injection e205)
                            replace hx205_0 := (HB.out.cell (World.block_lt_of_cell? w _ hx205_0)).trans hx205_0
                            replace hx205_1 := (HB.out.cell (World.block_lt_of_cell? w _ hx205_1)).trans hx205_1
                            replace hx205_2 := (HB.out.cell (World.block_lt_of_cell? w _ hx205_2)).trans hx205_2
                            replace hx205_3 := (HB.out.cell (World.block_lt_of_cell? w _ hx205_3)).trans hx205_3
                            replace p205 := eq_true p205
                            replace q205 := eq_true q205
                            refine start_ (n := 18) (S := fun w' => w'.cell? ⟨gb203, 0, none⟩ = some (.string a0_0) ∧ w'.cell? ⟨gb203, 1, none⟩ = some (.slice (some ad204) l0_1.length c0_1) ∧ w'.cell? (ad204.add ((x4_1).toNat * 4)) = some (.string ((rd_T36 l0_1 x4_1).f0)) ∧ w'.cell? ⟨(ad204.add ((x4_1).toNat * 4)).block, (ad204.add ((x4_1).toNat * 4)).off + 1, none⟩ = some (.int .i64 ((rd_T36 l0_1 x4_1).f1.f0)) ∧ w'.cell? ⟨(ad204.add ((x4_1).toNat * 4)).block, (ad204.add ((x4_1).toNat * 4)).off + 2, none⟩ = some (.int .i64 ((rd_T36 l0_1 x4_1).f1.f1)) ∧ w'.cell? ⟨(ad204.add ((x4_1).toNat * 4)).block, (ad204.add ((x4_1).toNat * 4)).off + 3, none⟩ = some (.bool true) ∧ w'.cell? (ad204.add ((x4_1).toNat * 4)) = some (.string ((rd_T36 l0_1 x4_1).f0)) ∧ w'.cell? ⟨(ad204.add ((x4_1).toNat * 4)).block, (ad204.add ((x4_1).toNat * 4)).off + 1, none⟩ = some (.int .i64 ((rd_T36 l0_1 x4_1).f1.f0)) ∧ w'.cell? ⟨(ad204.add ((x4_1).toNat * 4)).block, (ad204.add ((x4_1).toNat * 4)).off + 2, none⟩ = some (.int .i64 ((rd_T36 l0_1 x4_1).f1.f1)) ∧ w'.cell? ⟨(ad204.add ((x4_1).toNat * 4)).block, (ad204.add ((x4_1).toNat * 4)).off + 3, none⟩ = some (.bool true)) (ds := []) #[false, false, false, false, false, false, false, false, false, false, false, false, false, false, false, false, false, false] (by kernel_rfl) rfl rfl ⟨(blk_cell BK203.out 0).trans rfl, (blk_cell BK203.out 1).trans rfl, ((HB.out.cell (World.block_lt_of_cell? w _ hw204_0)).trans (by first | exact hw204_0 | (rw [Nbq14.out]; exact hw204_0))), ((HB.out.cell (World.block_lt_of_cell? w _ hw204_1)).trans (by first | exact hw204_1 | (rw [Nbq14.out]; exact hw204_1))), ((HB.out.cell (World.block_lt_of_cell? w _ hw204_2)).trans (by first | exact hw204_2 | (rw [Nbq14.out]; exact hw204_2))), ((HB.out.cell (World.block_lt_of_cell? w _ hw204_3)).trans (by first | exact hw204_3 | (rw [Nbq14.out]; exact hw204_3))), ((HB.out.cell (World.block_lt_of_cell? w _ hw205_0)).trans (by first | exact hw205_0 | (rw [Nbq14.out]; exact hw205_0))), ((HB.out.cell (World.block_lt_of_cell? w _ hw205_1)).trans (by first | exact hw205_1 | (rw [Nbq14.out]; exact hw205_1))), ((HB.out.cell (World.block_lt_of_cell? w _ hw205_2)).trans (by first | exact hw205_2 | (rw [Nbq14.out]; exact hw205_2))), ((HB.out.cell (World.block_lt_of_cell? w _ hw205_3)).trans (by first | exact hw205_3 | (rw [Nbq14.out]; exact hw205_3)))⟩ (fun hHeld => ?_); refine with_tabW colonnaderef11_Show.tab7 colonnaderef11_Show.bits7 (fun HT_ HW_ => ?_)
                            generalize wr.drew = w18 at BK203 HB hx204_0 hx204_1 hx204_2 hx204_3 hx205_0 hx205_1 hx205_2 hx205_3 hHeld ⊢
                            refine pure_ (i := 0) (N := some 20) (v := ?_) (a' := ?_) #[true, false, false, false, false, false, false, false, false, false, false, false, false, false, false, false, false, false] rfl rfl (any_of HT_.out (by kernel_rfl)) (fun _ _ _ h => h) (Or.inl ⟨by rfl, ?_⟩) ?_ ?_
                            rotate_left
                            · intro w'
                              go_simp
                              with_reducible rfl
                            rotate_left
                            · simp only [Act.put, List.setIfInBounds_toArray, List.set_cons_zero, List.set_cons_succ, i64_w, i32_w]
                              rfl
                            refine pure_ (i := 1) (N := some 21) (v := ?_) (a' := ?_) #[true, true, false, false, false, false, false, false, false, false, false, false, false, false, false, false, false, false] rfl rfl (any_of HT_.out (by kernel_rfl)) (fun _ _ _ h => h) (Or.inl ⟨by rfl, ?_⟩) ?_ ?_
                            rotate_left
                            · intro w'
                              go_simp
                              with_reducible rfl
                            rotate_left
                            · simp only [Act.put, List.setIfInBounds_toArray, List.set_cons_zero, List.set_cons_succ, i64_w, i32_w]
                              rfl
                            refine pure_ (i := 3) (N := some 23) (v := ?_) (a' := ?_) #[true, true, false, true, false, false, false, false, false, false, false, false, false, false, false, false, false, false] rfl rfl (any_of HT_.out (by kernel_rfl)) (fun _ _ _ h => h) (Or.inl ⟨by rfl, ?_⟩) ?_ ?_
                            rotate_left
                            · intro w'
                              go_simp
                              with_reducible rfl
                            rotate_left
                            · simp only [Act.put, List.setIfInBounds_toArray, List.set_cons_zero, List.set_cons_succ, i64_w, i32_w]
                              rfl
                            refine pure_ (i := 8) (N := some 28) (v := ?_) (a' := ?_) #[true, true, false, true, false, false, false, false, true, false, false, false, false, false, false, false, false, false] rfl rfl (any_of HT_.out (by kernel_rfl)) (fun _ _ _ h => h) (Or.inl ⟨by rfl, ?_⟩) ?_ ?_
                            rotate_left
                            · intro w'
                              go_simp
                              with_reducible rfl
                            rotate_left
                            · simp only [Act.put, List.setIfInBounds_toArray, List.set_cons_zero, List.set_cons_succ, i64_w, i32_w]
                              rfl
                            refine pure_ (i := 10) (N := some 30) (v := ?_) (a' := ?_) #[true, true, false, true, false, false, false, false, true, false, true, false, false, false, false, false, false, false] rfl rfl (any_of HT_.out (by kernel_rfl)) (fun _ _ _ h => h) (Or.inl ⟨by rfl, ?_⟩) ?_ ?_
                            rotate_left
                            · intro w'
                              go_simp
                              with_reducible rfl
                            rotate_left
                            · simp only [Act.put, List.setIfInBounds_toArray, List.set_cons_zero, List.set_cons_succ, i64_w, i32_w]
                              rfl
                            refine take_ (i := 2) (N := some 22) (v := ?_) (a' := ?_) #[true, true, true, true, false, false, false, false, true, false, true, false, false, false, false, false, false, false] rfl rfl (take_ofW HT_.out HW_.out (by kernel_rfl)) (fun _ _ _ h => h) (Or.inl ⟨by rfl, ?_⟩) hHeld ?_ ?_
                            rotate_left
                            · rintro w' ⟨s0, s1, s2, s3, s4, s5, s6, s7, s8, s9⟩
                              go_simp
                              with_reducible rfl
                            rotate_left
                            · simp only [Act.put, List.setIfInBounds_toArray, List.set_cons_zero, List.set_cons_succ, i64_w, i32_w]
                              rfl
                            refine pure_ (i := 4) (N := some 24) (v := ?_) (a' := ?_) #[true, true, true, true, true, false, false, false, true, false, true, false, false, false, false, false, false, false] rfl rfl (any_of HT_.out (by kernel_rfl)) (fun _ _ _ h => h) (Or.inl ⟨by rfl, ?_⟩) ?_ ?_
                            rotate_left
                            · intro w'
                              go_simp
                              with_reducible rfl
                            rotate_left
                            · simp only [Act.put, List.setIfInBounds_toArray, List.set_cons_zero, List.set_cons_succ, i64_w, i32_w]
                              rfl
                            refine pure_ (i := 5) (N := some 25) (v := ?_) (a' := ?_) #[true, true, true, true, true, true, false, false, true, false, true, false, false, false, false, false, false, false] rfl rfl (any_of HT_.out (by kernel_rfl)) (fun _ _ _ h => h) (Or.inl ⟨by rfl, ?_⟩) ?_ ?_
                            rotate_left
                            · intro w'
                              go_simp
                              with_reducible rfl
                            rotate_left
                            · simp only [Act.put, List.setIfInBounds_toArray, List.set_cons_zero, List.set_cons_succ, i64_w, i32_w]
                              rfl
                            refine take_ (i := 6) (N := some 26) (v := ?_) (a' := ?_) #[true, true, true, true, true, true, true, false, true, false, true, false, false, false, false, false, false, false] rfl rfl (take_ofW HT_.out HW_.out (by kernel_rfl)) (fun _ _ _ h => h) (Or.inl ⟨by rfl, ?_⟩) hHeld ?_ ?_
                            rotate_left
                            · rintro w' ⟨s0, s1, s2, s3, s4, s5, s6, s7, s8, s9⟩
                              go_simp
                              with_reducible rfl
                            rotate_left
                            · simp only [Act.put, List.setIfInBounds_toArray, List.set_cons_zero, List.set_cons_succ, i64_w, i32_w]
                              rfl
                            refine pure_ (i := 7) (N := some 27) (v := ?_) (a' := ?_) #[true, true, true, true, true, true, true, true, true, false, true, false, false, false, false, false, false, false] rfl rfl (any_of HT_.out (by kernel_rfl)) (fun _ _ _ h => h) (Or.inl ⟨by rfl, ?_⟩) ?_ ?_
                            rotate_left
                            · intro w'
                              go_simp
                              with_reducible rfl
                            rotate_left
                            · simp only [Act.put, List.setIfInBounds_toArray, List.set_cons_zero, List.set_cons_succ, i64_w, i32_w]
                              rfl
                            refine take_ (i := 9) (N := some 29) (v := ?_) (a' := ?_) #[true, true, true, true, true, true, true, true, true, true, true, false, false, false, false, false, false, false] rfl rfl (take_ofW HT_.out HW_.out (by kernel_rfl)) (fun _ _ _ h => h) (Or.inl ⟨by rfl, ?_⟩) hHeld ?_ ?_
                            rotate_left
                            · rintro w' ⟨s0, s1, s2, s3, s4, s5, s6, s7, s8, s9⟩
                              go_simp
                              with_reducible rfl
                            rotate_left
                            · simp only [Act.put, List.setIfInBounds_toArray, List.set_cons_zero, List.set_cons_succ, i64_w, i32_w]
                              rfl
                            refine pure_ (i := 11) (N := some 31) (v := ?_) (a' := ?_) #[true, true, true, true, true, true, true, true, true, true, true, true, false, false, false, false, false, false] rfl rfl (any_of HT_.out (by kernel_rfl)) (fun _ _ _ h => h) (Or.inl ⟨by rfl, ?_⟩) ?_ ?_
                            rotate_left
                            · intro w'
                              go_simp
                              with_reducible rfl
                            rotate_left
                            · simp only [Act.put, List.setIfInBounds_toArray, List.set_cons_zero, List.set_cons_succ, i64_w, i32_w]
                              rfl
                            refine pure_ (i := 12) (N := some 32) (v := ?_) (a' := ?_) #[true, true, true, true, true, true, true, true, true, true, true, true, true, false, false, false, false, false] rfl rfl (any_of HT_.out (by kernel_rfl)) (fun _ _ _ h => h) (Or.inl ⟨by rfl, ?_⟩) ?_ ?_
                            rotate_left
                            · intro w'
                              go_simp
                              with_reducible rfl
                            rotate_left
                            · simp only [Act.put, List.setIfInBounds_toArray, List.set_cons_zero, List.set_cons_succ, i64_w, i32_w]
                              rfl
                            refine take_ (i := 13) (N := some 33) (v := ?_) (a' := ?_) #[true, true, true, true, true, true, true, true, true, true, true, true, true, true, false, false, false, false] rfl rfl (take_ofW HT_.out HW_.out (by kernel_rfl)) (fun _ _ _ h => h) (Or.inl ⟨by rfl, ?_⟩) hHeld ?_ ?_
                            rotate_left
                            · rintro w' ⟨s0, s1, s2, s3, s4, s5, s6, s7, s8, s9⟩
                              go_simp
                              with_reducible rfl
                            rotate_left
                            · simp only [Act.put, List.setIfInBounds_toArray, List.set_cons_zero, List.set_cons_succ, i64_w, i32_w]
                              rfl
                            refine one_ (i := 14) (N := some 34) #[true, true, true, true, true, true, true, true, true, true, true, true, true, true, true, false, false, false] rfl rfl (one_of HT_.out (by kernel_rfl)) (by decide) (fun K hK => ?_)
                            refine goes_ Tryz.func15 (by kernel_rfl) rfl #[.agg #[.int .i64 ((rd_T36 l0_1 x4_1).f1.f0), .int .i64 ((rd_T36 l0_1 x4_1).f1.f1)]] (by rfl) rfl rfl (by (try simp only [List.map_toArray, List.map_cons, List.map_nil]); first | done | rfl | (simp only [List.length_drop, List.length_take]; rfl)) ?_
                            with_reducible refine (colonnaderef11_TypeName.calls k1 ((rd_T36 l0_1 x4_1).f1.f0) ((rd_T36 l0_1 x4_1).f1.f1) t206 _ A11.out).mono ?_
                            rintro e w19 ⟨rfl, hb⟩
                            refine ⟨_, rfl, ?_⟩
                            have n0_ := Aside0.mk (blk_below (g := gb203) (o := .cells #[.string a0_0, .slice (some ad204) l0_1.length c0_1] 24 (0, 0)) (by (with_reducible repeat (first | refine blk_drewN ?_ _ | refine blk_drew ?_ | refine blk_alloc ?_ _)); exact BK203.out) hb)
                            have n1_ := Aside0.mk (below_step (by repeat (first | (with_reducible first | exact HB.out | apply below_alloc | apply pw_below_drewN | apply below_drew1 | refine below_set ?_ GE203.out) | exact HB.out)) hb)
                            clear BK203
                            clear HB
                            have BK203 := n0_
                            have HB := n1_
                            clear n0_ n1_
                            (try clear hb)
                            (try clear hb2)
                            (try clear hk)
                            (try clear hi)
                            refine hK.out _ _ ⟨(blk_cell BK203.out 0).trans rfl, (blk_cell BK203.out 1).trans rfl, ((HB.out.cell (World.block_lt_of_cell? w _ hw204_0)).trans (by first | exact hw204_0 | (rw [Nbq14.out]; exact hw204_0))), ((HB.out.cell (World.block_lt_of_cell? w _ hw204_1)).trans (by first | exact hw204_1 | (rw [Nbq14.out]; exact hw204_1))), ((HB.out.cell (World.block_lt_of_cell? w _ hw204_2)).trans (by first | exact hw204_2 | (rw [Nbq14.out]; exact hw204_2))), ((HB.out.cell (World.block_lt_of_cell? w _ hw204_3)).trans (by first | exact hw204_3 | (rw [Nbq14.out]; exact hw204_3))), ((HB.out.cell (World.block_lt_of_cell? w _ hw205_0)).trans (by first | exact hw205_0 | (rw [Nbq14.out]; exact hw205_0))), ((HB.out.cell (World.block_lt_of_cell? w _ hw205_1)).trans (by first | exact hw205_1 | (rw [Nbq14.out]; exact hw205_1))), ((HB.out.cell (World.block_lt_of_cell? w _ hw205_2)).trans (by first | exact hw205_2 | (rw [Nbq14.out]; exact hw205_2))), ((HB.out.cell (World.block_lt_of_cell? w _ hw205_3)).trans (by first | exact hw205_3 | (rw [Nbq14.out]; exact hw205_3)))⟩ (fun hHeld => ?_)
                            clear hK K
                            refine norm_ (a' := ?_) ?_ ?_
                            rotate_left
                            · show Act.put _ (some 34) _ = _
                              simp only [Act.put, List.setIfInBounds_toArray, List.set_cons_zero, List.set_cons_succ, i64_w, i32_w]
                              rfl
                            refine pure_ (i := 15) (N := some 35) (v := ?_) (a' := ?_) #[true, true, true, true, true, true, true, true, true, true, true, true, true, true, true, true, false, false] rfl rfl (any_of HT_.out (by kernel_rfl)) (fun _ _ _ h => h) (Or.inl ⟨by rfl, ?_⟩) ?_ ?_
                            rotate_left
                            · intro w'
                              go_simp
                              with_reducible rfl
                            rotate_left
                            · simp only [Act.put, List.setIfInBounds_toArray, List.set_cons_zero, List.set_cons_succ, i64_w, i32_w]
                              rfl
                            refine pure_ (i := 16) (N := some 36) (v := ?_) (a' := ?_) #[true, true, true, true, true, true, true, true, true, true, true, true, true, true, true, true, true, false] rfl rfl (any_of HT_.out (by kernel_rfl)) (fun _ _ _ h => h) (Or.inl ⟨by rfl, ?_⟩) ?_ ?_
                            rotate_left
                            · intro w'
                              go_simp
                              with_reducible rfl
                            rotate_left
                            · simp only [Act.put, List.setIfInBounds_toArray, List.set_cons_zero, List.set_cons_succ, i64_w, i32_w]
                              rfl
                            refine pure_ (i := 17) (N := some 3) (v := ?_) (a' := ?_) #[true, true, true, true, true, true, true, true, true, true, true, true, true, true, true, true, true, true] rfl rfl (any_of HT_.out (by kernel_rfl)) (fun _ _ _ h => h) (Or.inl ⟨by rfl, ?_⟩) ?_ ?_
                            rotate_left
                            · intro w'
                              go_simp
                              with_reducible rfl
                            rotate_left
                            · simp only [Act.put, List.setIfInBounds_toArray, List.set_cons_zero, List.set_cons_succ, i64_w, i32_w]
                              rfl
                            refine done_ (done_of HT_.out (by kernel_rfl)) ?_
                            have hcz20_0 : w19.cell? ⟨gb203, 0, none⟩ = some (.string a0_0) := (blk_cell BK203.out 0).trans rfl
                            have hcz20_1 : w19.cell? ⟨gb203, 1, none⟩ = some (.slice (some ad204) l0_1.length c0_1) := (blk_cell BK203.out 1).trans rfl
                            have hfz20_0 := blk_frozen BK203.out 0
                            have hfz20_1 := blk_frozen BK203.out 1
                            have p207 : 0 ≤ (x4_1 : Int) := of_decide_eq_true (by first | (with_reducible assumption) | assumption)
                            have q207 : x4_1 < (l0_1.length : Int) := of_decide_eq_true (by first | (with_reducible assumption) | assumption)
                            obtain ⟨ad207, e207, hx207_0, hx207_1, hx207_2, hx207_3⟩ := at_T36 HR0_1.out x4_1 p207 q207
                            (try rw [← Nbq14.out] at hx207_3)
                            obtain rfl : ad204 = ad207 := (by injection e207)
                            replace hx207_0 := (HB.out.cell (World.block_lt_of_cell? w _ hx207_0)).trans hx207_0
                            replace hx207_1 := (HB.out.cell (World.block_lt_of_cell? w _ hx207_1)).trans hx207_1
                            replace hx207_2 := (HB.out.cell (World.block_lt_of_cell? w _ hx207_2)).trans hx207_2
                            replace hx207_3 := (HB.out.cell (World.block_lt_of_cell? w _ hx207_3)).trans hx207_3
                            replace p207 := eq_true p207
                            replace q207 := eq_true q207
                            try go_wp2
                            go_roundg k1
                            case measure => have := HK1.out; omega
                            case rel => exact ⟨(((x3_1 ++ (⟨#[44, 32]⟩ : ByteArray)) ++ ((((rd_T36 l0_1 x4_1).f0) ++ (⟨#[32]⟩ : ByteArray)) ++ t206)) ++ (⟨#[32, 78, 79, 84, 32, 78, 85, 76, 76]⟩ : ByteArray)), (wrap64 (x4_1 + 1)), (by first | rfl | (simp; done) | (simp [*]; done)), (by first | rfl | (simp; done) | (simp [*]; done)), H', ⟨by have := HK1.out; omega⟩, ⟨by (with_reducible repeat (first | refine blk_drewN ?_ _ | refine blk_drew ?_ | refine blk_alloc ?_ _)); exact BK203.out⟩, ⟨by repeat (first | (with_reducible first | exact HB.out | apply below_alloc | apply pw_below_drewN | apply below_drew1 | refine below_set ?_ GE203.out) | exact HB.out)⟩⟩
                          · rw [if_neg c16] at H
                            exact absurd H (by simp)
                        · replace c15 := Bool.eq_false_iff.mpr c15
                          subst c15
                          have H1 : (colonnaderef11_Show.l0 k1 ((x3_1 ++ (⟨#[44, 32]⟩ : ByteArray)) ++ ((((rd_T36 l0_1 x4_1).f0) ++ (⟨#[32]⟩ : ByteArray)) ++ t206)) (wrap64 (x4_1 + 1)) a0_0 l0_1) = some r := by rw [if_neg (show ¬ (false = true) by decide)] at H; exact H
                          clear H
                          have H := H1
                          clear H1
                          have H' := Aside0.mk H
                          clear H
                          have hcz21_0 : wr.cell? ⟨gb203, 0, none⟩ = some (.string a0_0) := (blk_cell BK203.out 0).trans rfl
                          have hcz21_1 : wr.cell? ⟨gb203, 1, none⟩ = some (.slice A0_1 l0_1.length c0_1) := (blk_cell BK203.out 1).trans rfl
                          have hfz21_0 := blk_frozen BK203.out 0
                          have hfz21_1 := blk_frozen BK203.out 1
                          try go_wp2
                          have n0_ := Aside0.mk (blk_drew BK203.out)
                          have n1_ := Aside0.mk (below_drew1 HB.out)
                          clear BK203
                          clear HB
                          have BK203 := n0_
                          have HB := n1_
                          clear n0_ n1_
                          have p204 : 0 ≤ (x4_1 : Int) := of_decide_eq_true (by first | (with_reducible assumption) | assumption)
                          have q204 : x4_1 < (l0_1.length : Int) := of_decide_eq_true (by first | (with_reducible assumption) | assumption)
                          obtain ⟨ad204, e204, hx204_0, hx204_1, hx204_2, hx204_3⟩ := at_T36 HR0_1.out x4_1 p204 q204
                          have hw204_3 := hx204_3
                          have hw204_2 := hx204_2
                          have hw204_1 := hx204_1
                          have hw204_0 := hx204_0
                          (try rw [← Nbq14.out] at hx204_3)
                          cases e204
                          replace hx204_0 := (HB.out.cell (World.block_lt_of_cell? w _ hx204_0)).trans hx204_0
                          replace hx204_1 := (HB.out.cell (World.block_lt_of_cell? w _ hx204_1)).trans hx204_1
                          replace hx204_2 := (HB.out.cell (World.block_lt_of_cell? w _ hx204_2)).trans hx204_2
                          replace hx204_3 := (HB.out.cell (World.block_lt_of_cell? w _ hx204_3)).trans hx204_3
                          replace p204 := eq_true p204
                          replace q204 := eq_true q204
                          have p205 : 0 ≤ (x4_1 : Int) := of_decide_eq_true (by first | (with_reducible assumption) | assumption)
                          have q205 : x4_1 < (l0_1.length : Int) := of_decide_eq_true (by first | (with_reducible assumption) | assumption)
                          obtain ⟨ad205, e205, hx205_0, hx205_1, hx205_2, hx205_3⟩ := at_T36 HR0_1.out x4_1 p205 q205
                          have hw205_3 := hx205_3
                          have hw205_2 := hx205_2
                          have hw205_1 := hx205_1
                          have hw205_0 := hx205_0
                          (try rw [← Nbq14.out] at hx205_3)
                          obtain rfl : ad204 = ad205 := (by injection e205)
                          replace hx205_0 := (HB.out.cell (World.block_lt_of_cell? w _ hx205_0)).trans hx205_0
                          replace hx205_1 := (HB.out.cell (World.block_lt_of_cell? w _ hx205_1)).trans hx205_1
                          replace hx205_2 := (HB.out.cell (World.block_lt_of_cell? w _ hx205_2)).trans hx205_2
                          replace hx205_3 := (HB.out.cell (World.block_lt_of_cell? w _ hx205_3)).trans hx205_3
                          replace p205 := eq_true p205
                          replace q205 := eq_true q205
                          refine start_ (n := 18) (S := fun w' => w'.cell? ⟨gb203, 0, none⟩ = some (.string a0_0) ∧ w'.cell? ⟨gb203, 1, none⟩ = some (.slice (some ad204) l0_1.length c0_1) ∧ w'.cell? (ad204.add ((x4_1).toNat * 4)) = some (.string ((rd_T36 l0_1 x4_1).f0)) ∧ w'.cell? ⟨(ad204.add ((x4_1).toNat * 4)).block, (ad204.add ((x4_1).toNat * 4)).off + 1, none⟩ = some (.int .i64 ((rd_T36 l0_1 x4_1).f1.f0)) ∧ w'.cell? ⟨(ad204.add ((x4_1).toNat * 4)).block, (ad204.add ((x4_1).toNat * 4)).off + 2, none⟩ = some (.int .i64 ((rd_T36 l0_1 x4_1).f1.f1)) ∧ w'.cell? ⟨(ad204.add ((x4_1).toNat * 4)).block, (ad204.add ((x4_1).toNat * 4)).off + 3, none⟩ = some (.bool false) ∧ w'.cell? (ad204.add ((x4_1).toNat * 4)) = some (.string ((rd_T36 l0_1 x4_1).f0)) ∧ w'.cell? ⟨(ad204.add ((x4_1).toNat * 4)).block, (ad204.add ((x4_1).toNat * 4)).off + 1, none⟩ = some (.int .i64 ((rd_T36 l0_1 x4_1).f1.f0)) ∧ w'.cell? ⟨(ad204.add ((x4_1).toNat * 4)).block, (ad204.add ((x4_1).toNat * 4)).off + 2, none⟩ = some (.int .i64 ((rd_T36 l0_1 x4_1).f1.f1)) ∧ w'.cell? ⟨(ad204.add ((x4_1).toNat * 4)).block, (ad204.add ((x4_1).toNat * 4)).off + 3, none⟩ = some (.bool false)) (ds := []) #[false, false, false, false, false, false, false, false, false, false, false, false, false, false, false, false, false, false] (by kernel_rfl) rfl rfl ⟨(blk_cell BK203.out 0).trans rfl, (blk_cell BK203.out 1).trans rfl, ((HB.out.cell (World.block_lt_of_cell? w _ hw204_0)).trans (by first | exact hw204_0 | (rw [Nbq14.out]; exact hw204_0))), ((HB.out.cell (World.block_lt_of_cell? w _ hw204_1)).trans (by first | exact hw204_1 | (rw [Nbq14.out]; exact hw204_1))), ((HB.out.cell (World.block_lt_of_cell? w _ hw204_2)).trans (by first | exact hw204_2 | (rw [Nbq14.out]; exact hw204_2))), ((HB.out.cell (World.block_lt_of_cell? w _ hw204_3)).trans (by first | exact hw204_3 | (rw [Nbq14.out]; exact hw204_3))), ((HB.out.cell (World.block_lt_of_cell? w _ hw205_0)).trans (by first | exact hw205_0 | (rw [Nbq14.out]; exact hw205_0))), ((HB.out.cell (World.block_lt_of_cell? w _ hw205_1)).trans (by first | exact hw205_1 | (rw [Nbq14.out]; exact hw205_1))), ((HB.out.cell (World.block_lt_of_cell? w _ hw205_2)).trans (by first | exact hw205_2 | (rw [Nbq14.out]; exact hw205_2))), ((HB.out.cell (World.block_lt_of_cell? w _ hw205_3)).trans (by first | exact hw205_3 | (rw [Nbq14.out]; exact hw205_3)))⟩ (fun hHeld => ?_); refine with_tabW colonnaderef11_Show.tab7 colonnaderef11_Show.bits7 (fun HT_ HW_ => ?_)
                          generalize wr.drew = w22 at BK203 HB hx204_0 hx204_1 hx204_2 hx204_3 hx205_0 hx205_1 hx205_2 hx205_3 hHeld ⊢
                          refine pure_ (i := 0) (N := some 20) (v := ?_) (a' := ?_) #[true, false, false, false, false, false, false, false, false, false, false, false, false, false, false, false, false, false] rfl rfl (any_of HT_.out (by kernel_rfl)) (fun _ _ _ h => h) (Or.inl ⟨by rfl, ?_⟩) ?_ ?_
                          rotate_left
                          · intro w'
                            go_simp
                            with_reducible rfl
                          rotate_left
                          · simp only [Act.put, List.setIfInBounds_toArray, List.set_cons_zero, List.set_cons_succ, i64_w, i32_w]
                            rfl
                          refine pure_ (i := 1) (N := some 21) (v := ?_) (a' := ?_) #[true, true, false, false, false, false, false, false, false, false, false, false, false, false, false, false, false, false] rfl rfl (any_of HT_.out (by kernel_rfl)) (fun _ _ _ h => h) (Or.inl ⟨by rfl, ?_⟩) ?_ ?_
                          rotate_left
                          · intro w'
                            go_simp
                            with_reducible rfl
                          rotate_left
                          · simp only [Act.put, List.setIfInBounds_toArray, List.set_cons_zero, List.set_cons_succ, i64_w, i32_w]
                            rfl
                          refine pure_ (i := 3) (N := some 23) (v := ?_) (a' := ?_) #[true, true, false, true, false, false, false, false, false, false, false, false, false, false, false, false, false, false] rfl rfl (any_of HT_.out (by kernel_rfl)) (fun _ _ _ h => h) (Or.inl ⟨by rfl, ?_⟩) ?_ ?_
                          rotate_left
                          · intro w'
                            go_simp
                            with_reducible rfl
                          rotate_left
                          · simp only [Act.put, List.setIfInBounds_toArray, List.set_cons_zero, List.set_cons_succ, i64_w, i32_w]
                            rfl
                          refine pure_ (i := 8) (N := some 28) (v := ?_) (a' := ?_) #[true, true, false, true, false, false, false, false, true, false, false, false, false, false, false, false, false, false] rfl rfl (any_of HT_.out (by kernel_rfl)) (fun _ _ _ h => h) (Or.inl ⟨by rfl, ?_⟩) ?_ ?_
                          rotate_left
                          · intro w'
                            go_simp
                            with_reducible rfl
                          rotate_left
                          · simp only [Act.put, List.setIfInBounds_toArray, List.set_cons_zero, List.set_cons_succ, i64_w, i32_w]
                            rfl
                          refine pure_ (i := 10) (N := some 30) (v := ?_) (a' := ?_) #[true, true, false, true, false, false, false, false, true, false, true, false, false, false, false, false, false, false] rfl rfl (any_of HT_.out (by kernel_rfl)) (fun _ _ _ h => h) (Or.inl ⟨by rfl, ?_⟩) ?_ ?_
                          rotate_left
                          · intro w'
                            go_simp
                            with_reducible rfl
                          rotate_left
                          · simp only [Act.put, List.setIfInBounds_toArray, List.set_cons_zero, List.set_cons_succ, i64_w, i32_w]
                            rfl
                          refine take_ (i := 2) (N := some 22) (v := ?_) (a' := ?_) #[true, true, true, true, false, false, false, false, true, false, true, false, false, false, false, false, false, false] rfl rfl (take_ofW HT_.out HW_.out (by kernel_rfl)) (fun _ _ _ h => h) (Or.inl ⟨by rfl, ?_⟩) hHeld ?_ ?_
                          rotate_left
                          · rintro w' ⟨s0, s1, s2, s3, s4, s5, s6, s7, s8, s9⟩
                            go_simp
                            with_reducible rfl
                          rotate_left
                          · simp only [Act.put, List.setIfInBounds_toArray, List.set_cons_zero, List.set_cons_succ, i64_w, i32_w]
                            rfl
                          refine pure_ (i := 4) (N := some 24) (v := ?_) (a' := ?_) #[true, true, true, true, true, false, false, false, true, false, true, false, false, false, false, false, false, false] rfl rfl (any_of HT_.out (by kernel_rfl)) (fun _ _ _ h => h) (Or.inl ⟨by rfl, ?_⟩) ?_ ?_
                          rotate_left
                          · intro w'
                            go_simp
                            with_reducible rfl
                          rotate_left
                          · simp only [Act.put, List.setIfInBounds_toArray, List.set_cons_zero, List.set_cons_succ, i64_w, i32_w]
                            rfl
                          refine pure_ (i := 5) (N := some 25) (v := ?_) (a' := ?_) #[true, true, true, true, true, true, false, false, true, false, true, false, false, false, false, false, false, false] rfl rfl (any_of HT_.out (by kernel_rfl)) (fun _ _ _ h => h) (Or.inl ⟨by rfl, ?_⟩) ?_ ?_
                          rotate_left
                          · intro w'
                            go_simp
                            with_reducible rfl
                          rotate_left
                          · simp only [Act.put, List.setIfInBounds_toArray, List.set_cons_zero, List.set_cons_succ, i64_w, i32_w]
                            rfl
                          refine take_ (i := 6) (N := some 26) (v := ?_) (a' := ?_) #[true, true, true, true, true, true, true, false, true, false, true, false, false, false, false, false, false, false] rfl rfl (take_ofW HT_.out HW_.out (by kernel_rfl)) (fun _ _ _ h => h) (Or.inl ⟨by rfl, ?_⟩) hHeld ?_ ?_
                          rotate_left
                          · rintro w' ⟨s0, s1, s2, s3, s4, s5, s6, s7, s8, s9⟩
                            go_simp
                            with_reducible rfl
                          rotate_left
                          · simp only [Act.put, List.setIfInBounds_toArray, List.set_cons_zero, List.set_cons_succ, i64_w, i32_w]
                            rfl
                          refine pure_ (i := 7) (N := some 27) (v := ?_) (a' := ?_) #[true, true, true, true, true, true, true, true, true, false, true, false, false, false, false, false, false, false] rfl rfl (any_of HT_.out (by kernel_rfl)) (fun _ _ _ h => h) (Or.inl ⟨by rfl, ?_⟩) ?_ ?_
                          rotate_left
                          · intro w'
                            go_simp
                            with_reducible rfl
                          rotate_left
                          · simp only [Act.put, List.setIfInBounds_toArray, List.set_cons_zero, List.set_cons_succ, i64_w, i32_w]
                            rfl
                          refine take_ (i := 9) (N := some 29) (v := ?_) (a' := ?_) #[true, true, true, true, true, true, true, true, true, true, true, false, false, false, false, false, false, false] rfl rfl (take_ofW HT_.out HW_.out (by kernel_rfl)) (fun _ _ _ h => h) (Or.inl ⟨by rfl, ?_⟩) hHeld ?_ ?_
                          rotate_left
                          · rintro w' ⟨s0, s1, s2, s3, s4, s5, s6, s7, s8, s9⟩
                            go_simp
                            with_reducible rfl
                          rotate_left
                          · simp only [Act.put, List.setIfInBounds_toArray, List.set_cons_zero, List.set_cons_succ, i64_w, i32_w]
                            rfl
                          refine pure_ (i := 11) (N := some 31) (v := ?_) (a' := ?_) #[true, true, true, true, true, true, true, true, true, true, true, true, false, false, false, false, false, false] rfl rfl (any_of HT_.out (by kernel_rfl)) (fun _ _ _ h => h) (Or.inl ⟨by rfl, ?_⟩) ?_ ?_
                          rotate_left
                          · intro w'
                            go_simp
                            with_reducible rfl
                          rotate_left
                          · simp only [Act.put, List.setIfInBounds_toArray, List.set_cons_zero, List.set_cons_succ, i64_w, i32_w]
                            rfl
                          refine pure_ (i := 12) (N := some 32) (v := ?_) (a' := ?_) #[true, true, true, true, true, true, true, true, true, true, true, true, true, false, false, false, false, false] rfl rfl (any_of HT_.out (by kernel_rfl)) (fun _ _ _ h => h) (Or.inl ⟨by rfl, ?_⟩) ?_ ?_
                          rotate_left
                          · intro w'
                            go_simp
                            with_reducible rfl
                          rotate_left
                          · simp only [Act.put, List.setIfInBounds_toArray, List.set_cons_zero, List.set_cons_succ, i64_w, i32_w]
                            rfl
                          refine take_ (i := 13) (N := some 33) (v := ?_) (a' := ?_) #[true, true, true, true, true, true, true, true, true, true, true, true, true, true, false, false, false, false] rfl rfl (take_ofW HT_.out HW_.out (by kernel_rfl)) (fun _ _ _ h => h) (Or.inl ⟨by rfl, ?_⟩) hHeld ?_ ?_
                          rotate_left
                          · rintro w' ⟨s0, s1, s2, s3, s4, s5, s6, s7, s8, s9⟩
                            go_simp
                            with_reducible rfl
                          rotate_left
                          · simp only [Act.put, List.setIfInBounds_toArray, List.set_cons_zero, List.set_cons_succ, i64_w, i32_w]
                            rfl
                          refine one_ (i := 14) (N := some 34) #[true, true, true, true, true, true, true, true, true, true, true, true, true, true, true, false, false, false] rfl rfl (one_of HT_.out (by kernel_rfl)) (by decide) (fun K hK => ?_)
                          refine goes_ Tryz.func15 (by kernel_rfl) rfl #[.agg #[.int .i64 ((rd_T36 l0_1 x4_1).f1.f0), .int .i64 ((rd_T36 l0_1 x4_1).f1.f1)]] (by rfl) rfl rfl (by (try simp only [List.map_toArray, List.map_cons, List.map_nil]); first | done | rfl | (simp only [List.length_drop, List.length_take]; rfl)) ?_
                          with_reducible refine (colonnaderef11_TypeName.calls k1 ((rd_T36 l0_1 x4_1).f1.f0) ((rd_T36 l0_1 x4_1).f1.f1) t206 _ A11.out).mono ?_
                          rintro e w23 ⟨rfl, hb⟩
                          refine ⟨_, rfl, ?_⟩
                          have n0_ := Aside0.mk (blk_below (g := gb203) (o := .cells #[.string a0_0, .slice (some ad204) l0_1.length c0_1] 24 (0, 0)) (by (with_reducible repeat (first | refine blk_drewN ?_ _ | refine blk_drew ?_ | refine blk_alloc ?_ _)); exact BK203.out) hb)
                          have n1_ := Aside0.mk (below_step (by repeat (first | (with_reducible first | exact HB.out | apply below_alloc | apply pw_below_drewN | apply below_drew1 | refine below_set ?_ GE203.out) | exact HB.out)) hb)
                          clear BK203
                          clear HB
                          have BK203 := n0_
                          have HB := n1_
                          clear n0_ n1_
                          (try clear hb)
                          (try clear hb2)
                          (try clear hk)
                          (try clear hi)
                          refine hK.out _ _ ⟨(blk_cell BK203.out 0).trans rfl, (blk_cell BK203.out 1).trans rfl, ((HB.out.cell (World.block_lt_of_cell? w _ hw204_0)).trans (by first | exact hw204_0 | (rw [Nbq14.out]; exact hw204_0))), ((HB.out.cell (World.block_lt_of_cell? w _ hw204_1)).trans (by first | exact hw204_1 | (rw [Nbq14.out]; exact hw204_1))), ((HB.out.cell (World.block_lt_of_cell? w _ hw204_2)).trans (by first | exact hw204_2 | (rw [Nbq14.out]; exact hw204_2))), ((HB.out.cell (World.block_lt_of_cell? w _ hw204_3)).trans (by first | exact hw204_3 | (rw [Nbq14.out]; exact hw204_3))), ((HB.out.cell (World.block_lt_of_cell? w _ hw205_0)).trans (by first | exact hw205_0 | (rw [Nbq14.out]; exact hw205_0))), ((HB.out.cell (World.block_lt_of_cell? w _ hw205_1)).trans (by first | exact hw205_1 | (rw [Nbq14.out]; exact hw205_1))), ((HB.out.cell (World.block_lt_of_cell? w _ hw205_2)).trans (by first | exact hw205_2 | (rw [Nbq14.out]; exact hw205_2))), ((HB.out.cell (World.block_lt_of_cell? w _ hw205_3)).trans (by first | exact hw205_3 | (rw [Nbq14.out]; exact hw205_3)))⟩ (fun hHeld => ?_)
                          clear hK K
                          refine norm_ (a' := ?_) ?_ ?_
                          rotate_left
                          · show Act.put _ (some 34) _ = _
                            simp only [Act.put, List.setIfInBounds_toArray, List.set_cons_zero, List.set_cons_succ, i64_w, i32_w]
                            rfl
                          refine pure_ (i := 15) (N := some 35) (v := ?_) (a' := ?_) #[true, true, true, true, true, true, true, true, true, true, true, true, true, true, true, true, false, false] rfl rfl (any_of HT_.out (by kernel_rfl)) (fun _ _ _ h => h) (Or.inl ⟨by rfl, ?_⟩) ?_ ?_
                          rotate_left
                          · intro w'
                            go_simp
                            with_reducible rfl
                          rotate_left
                          · simp only [Act.put, List.setIfInBounds_toArray, List.set_cons_zero, List.set_cons_succ, i64_w, i32_w]
                            rfl
                          refine pure_ (i := 16) (N := some 36) (v := ?_) (a' := ?_) #[true, true, true, true, true, true, true, true, true, true, true, true, true, true, true, true, true, false] rfl rfl (any_of HT_.out (by kernel_rfl)) (fun _ _ _ h => h) (Or.inl ⟨by rfl, ?_⟩) ?_ ?_
                          rotate_left
                          · intro w'
                            go_simp
                            with_reducible rfl
                          rotate_left
                          · simp only [Act.put, List.setIfInBounds_toArray, List.set_cons_zero, List.set_cons_succ, i64_w, i32_w]
                            rfl
                          refine pure_ (i := 17) (N := some 3) (v := ?_) (a' := ?_) #[true, true, true, true, true, true, true, true, true, true, true, true, true, true, true, true, true, true] rfl rfl (any_of HT_.out (by kernel_rfl)) (fun _ _ _ h => h) (Or.inl ⟨by rfl, ?_⟩) ?_ ?_
                          rotate_left
                          · intro w'
                            go_simp
                            with_reducible rfl
                          rotate_left
                          · simp only [Act.put, List.setIfInBounds_toArray, List.set_cons_zero, List.set_cons_succ, i64_w, i32_w]
                            rfl
                          refine done_ (done_of HT_.out (by kernel_rfl)) ?_
                          have hcz24_0 : w23.cell? ⟨gb203, 0, none⟩ = some (.string a0_0) := (blk_cell BK203.out 0).trans rfl
                          have hcz24_1 : w23.cell? ⟨gb203, 1, none⟩ = some (.slice (some ad204) l0_1.length c0_1) := (blk_cell BK203.out 1).trans rfl
                          have hfz24_0 := blk_frozen BK203.out 0
                          have hfz24_1 := blk_frozen BK203.out 1
                          have p207 : 0 ≤ (x4_1 : Int) := of_decide_eq_true (by first | (with_reducible assumption) | assumption)
                          have q207 : x4_1 < (l0_1.length : Int) := of_decide_eq_true (by first | (with_reducible assumption) | assumption)
                          obtain ⟨ad207, e207, hx207_0, hx207_1, hx207_2, hx207_3⟩ := at_T36 HR0_1.out x4_1 p207 q207
                          (try rw [← Nbq14.out] at hx207_3)
                          obtain rfl : ad204 = ad207 := (by injection e207)
                          replace hx207_0 := (HB.out.cell (World.block_lt_of_cell? w _ hx207_0)).trans hx207_0
                          replace hx207_1 := (HB.out.cell (World.block_lt_of_cell? w _ hx207_1)).trans hx207_1
                          replace hx207_2 := (HB.out.cell (World.block_lt_of_cell? w _ hx207_2)).trans hx207_2
                          replace hx207_3 := (HB.out.cell (World.block_lt_of_cell? w _ hx207_3)).trans hx207_3
                          replace p207 := eq_true p207
                          replace q207 := eq_true q207
                          try go_wp2
                          go_roundg k1
                          case measure => have := HK1.out; omega
                          case rel => exact ⟨((x3_1 ++ (⟨#[44, 32]⟩ : ByteArray)) ++ ((((rd_T36 l0_1 x4_1).f0) ++ (⟨#[32]⟩ : ByteArray)) ++ t206)), (wrap64 (x4_1 + 1)), (by first | rfl | (simp; done) | (simp [*]; done)), (by first | rfl | (simp; done) | (simp [*]; done)), H', ⟨by have := HK1.out; omega⟩, ⟨by (with_reducible repeat (first | refine blk_drewN ?_ _ | refine blk_drew ?_ | refine blk_alloc ?_ _)); exact BK203.out⟩, ⟨by repeat (first | (with_reducible first | exact HB.out | apply below_alloc | apply pw_below_drewN | apply below_drew1 | refine below_set ?_ GE203.out) | exact HB.out)⟩⟩
                      · rw [if_neg c13] at H
                        exact absurd H (by simp)
                    · rw [if_neg c12] at H
                      exact absurd H (by simp)
                  · rw [if_neg c10] at H
                    exact absurd H (by simp)
                · rw [if_neg c9] at H
                  exact absurd H (by simp)
              · rw [if_neg c8] at H
                exact absurd H (by simp)
            · rw [if_neg c7] at H
              have c7b0 : decide (0 < x4_1) = false := decide_eq_false c7
              clear c7
              by_cases c25 : 0 ≤ x4_1
              · rw [if_pos c25] at H
                have c25b0 : decide (0 ≤ x4_1) = true := decide_eq_true c25
                clear c25
                by_cases c26 : ((rd_T36 l0_1 x4_1).f0).size + 1 ≤ 9223372036854775807
                · rw [if_pos c26] at H
                  have c26b0 := eq_true c26
                  (try (have c26n := c26; simp [size_lit] at c26n))
                  (try (have c26m := eq_false (Nat.not_lt.2 c26); simp only [ByteArray.size_append, size_lit, List.length_cons, List.length_nil, Nat.reduceAdd, Nat.zero_add] at c26m))
                  have c26b1 : decide (((rd_T36 l0_1 x4_1).f0).size + 1 ≤ 9223372036854775807) = true := decide_eq_true c26
                  try have c26b2 : (9223372036854775807 < ((rd_T36 l0_1 x4_1).f0).size + 1) = False := eq_false (Nat.not_lt.2 c26)
                  replace H := Option.bind_eq_some_iff.mp H
                  obtain ⟨t210, A270, H⟩ := H
                  replace H : (if (((rd_T36 l0_1 x4_1).f0) ++ (⟨#[32]⟩ : ByteArray)).size + t210.size ≤ 9223372036854775807 then (if x3_1.size + ((((rd_T36 l0_1 x4_1).f0) ++ (⟨#[32]⟩ : ByteArray)) ++ t210).size ≤ 9223372036854775807 then (if (rd_T36 l0_1 x4_1).f2 = true then (if (x3_1 ++ ((((rd_T36 l0_1 x4_1).f0) ++ (⟨#[32]⟩ : ByteArray)) ++ t210)).size + 9 ≤ 9223372036854775807 then (colonnaderef11_Show.l0 k1 ((x3_1 ++ ((((rd_T36 l0_1 x4_1).f0) ++ (⟨#[32]⟩ : ByteArray)) ++ t210)) ++ (⟨#[32, 78, 79, 84, 32, 78, 85, 76, 76]⟩ : ByteArray)) (wrap64 (x4_1 + 1)) a0_0 l0_1) else (none)) else (colonnaderef11_Show.l0 k1 (x3_1 ++ ((((rd_T36 l0_1 x4_1).f0) ++ (⟨#[32]⟩ : ByteArray)) ++ t210)) (wrap64 (x4_1 + 1)) a0_0 l0_1)) else (none)) else (none)) = some r := H
                  have A27 := Aside0.mk A270
                  clear A270
                  by_cases c28 : (((rd_T36 l0_1 x4_1).f0) ++ (⟨#[32]⟩ : ByteArray)).size + t210.size ≤ 9223372036854775807
                  · rw [if_pos c28] at H
                    have c28b0 := eq_true c28
                    (try (have c28n := c28; simp [size_lit] at c28n))
                    (try (have c28m := eq_false (Nat.not_lt.2 c28); simp only [ByteArray.size_append, size_lit, List.length_cons, List.length_nil, Nat.reduceAdd, Nat.zero_add] at c28m))
                    have c28b1 : decide ((((rd_T36 l0_1 x4_1).f0) ++ (⟨#[32]⟩ : ByteArray)).size + t210.size ≤ 9223372036854775807) = true := decide_eq_true c28
                    try have c28b2 : (9223372036854775807 < (((rd_T36 l0_1 x4_1).f0) ++ (⟨#[32]⟩ : ByteArray)).size + t210.size) = False := eq_false (Nat.not_lt.2 c28)
                    by_cases c29 : x3_1.size + ((((rd_T36 l0_1 x4_1).f0) ++ (⟨#[32]⟩ : ByteArray)) ++ t210).size ≤ 9223372036854775807
                    · rw [if_pos c29] at H
                      have c29b0 := eq_true c29
                      (try (have c29n := c29; simp [size_lit] at c29n))
                      (try (have c29m := eq_false (Nat.not_lt.2 c29); simp only [ByteArray.size_append, size_lit, List.length_cons, List.length_nil, Nat.reduceAdd, Nat.zero_add] at c29m))
                      have c29b1 : decide (x3_1.size + ((((rd_T36 l0_1 x4_1).f0) ++ (⟨#[32]⟩ : ByteArray)) ++ t210).size ≤ 9223372036854775807) = true := decide_eq_true c29
                      try have c29b2 : (9223372036854775807 < x3_1.size + ((((rd_T36 l0_1 x4_1).f0) ++ (⟨#[32]⟩ : ByteArray)) ++ t210).size) = False := eq_false (Nat.not_lt.2 c29)
                      obtain ⟨bq30, hbq30⟩ : ∃ b_ : Bool, b_ = ((rd_T36 l0_1 x4_1).f2) := ⟨_, rfl⟩
                      replace H : (if bq30 = true then (if (x3_1 ++ ((((rd_T36 l0_1 x4_1).f0) ++ (⟨#[32]⟩ : ByteArray)) ++ t210)).size + 9 ≤ 9223372036854775807 then (colonnaderef11_Show.l0 k1 ((x3_1 ++ ((((rd_T36 l0_1 x4_1).f0) ++ (⟨#[32]⟩ : ByteArray)) ++ t210)) ++ (⟨#[32, 78, 79, 84, 32, 78, 85, 76, 76]⟩ : ByteArray)) (wrap64 (x4_1 + 1)) a0_0 l0_1) else (none)) else (colonnaderef11_Show.l0 k1 (x3_1 ++ ((((rd_T36 l0_1 x4_1).f0) ++ (⟨#[32]⟩ : ByteArray)) ++ t210)) (wrap64 (x4_1 + 1)) a0_0 l0_1)) = some r := by rw [← hbq30] at H; exact H
                      have Nbq30 := Aside0.mk hbq30
                      clear hbq30
                      by_cases c31 : bq30 = true
                      · subst c31
                        have H1 : (if (x3_1 ++ ((((rd_T36 l0_1 x4_1).f0) ++ (⟨#[32]⟩ : ByteArray)) ++ t210)).size + 9 ≤ 9223372036854775807 then (colonnaderef11_Show.l0 k1 ((x3_1 ++ ((((rd_T36 l0_1 x4_1).f0) ++ (⟨#[32]⟩ : ByteArray)) ++ t210)) ++ (⟨#[32, 78, 79, 84, 32, 78, 85, 76, 76]⟩ : ByteArray)) (wrap64 (x4_1 + 1)) a0_0 l0_1) else (none)) = some r := by rw [if_pos rfl] at H; exact H
                        clear H
                        have H := H1
                        clear H1
                        by_cases c32 : (x3_1 ++ ((((rd_T36 l0_1 x4_1).f0) ++ (⟨#[32]⟩ : ByteArray)) ++ t210)).size + 9 ≤ 9223372036854775807
                        · rw [if_pos c32] at H
                          have c32b0 := eq_true c32
                          (try (have c32n := c32; simp [size_lit] at c32n))
                          (try (have c32m := eq_false (Nat.not_lt.2 c32); simp only [ByteArray.size_append, size_lit, List.length_cons, List.length_nil, Nat.reduceAdd, Nat.zero_add] at c32m))
                          have c32b1 : decide ((x3_1 ++ ((((rd_T36 l0_1 x4_1).f0) ++ (⟨#[32]⟩ : ByteArray)) ++ t210)).size + 9 ≤ 9223372036854775807) = true := decide_eq_true c32
                          try have c32b2 : (9223372036854775807 < (x3_1 ++ ((((rd_T36 l0_1 x4_1).f0) ++ (⟨#[32]⟩ : ByteArray)) ++ t210)).size + 9) = False := eq_false (Nat.not_lt.2 c32)
                          have H' := Aside0.mk H
                          clear H
                          have hcz33_0 : wr.cell? ⟨gb203, 0, none⟩ = some (.string a0_0) := (blk_cell BK203.out 0).trans rfl
                          have hcz33_1 : wr.cell? ⟨gb203, 1, none⟩ = some (.slice A0_1 l0_1.length c0_1) := (blk_cell BK203.out 1).trans rfl
                          have hfz33_0 := blk_frozen BK203.out 0
                          have hfz33_1 := blk_frozen BK203.out 1
                          try go_wp2
                          have n0_ := Aside0.mk (blk_drew BK203.out)
                          have n1_ := Aside0.mk (below_drew1 HB.out)
                          clear BK203
                          clear HB
                          have BK203 := n0_
                          have HB := n1_
                          clear n0_ n1_
                          have p208 : 0 ≤ (x4_1 : Int) := of_decide_eq_true (by first | (with_reducible assumption) | assumption)
                          have q208 : x4_1 < (l0_1.length : Int) := of_decide_eq_true (by first | (with_reducible assumption) | assumption)
                          obtain ⟨ad208, e208, hx208_0, hx208_1, hx208_2, hx208_3⟩ := at_T36 HR0_1.out x4_1 p208 q208
                          have hw208_3 := hx208_3
                          have hw208_2 := hx208_2
                          have hw208_1 := hx208_1
                          have hw208_0 := hx208_0
                          (try rw [← Nbq30.out] at hx208_3)
                          cases e208
                          replace hx208_0 := (HB.out.cell (World.block_lt_of_cell? w _ hx208_0)).trans hx208_0
                          replace hx208_1 := (HB.out.cell (World.block_lt_of_cell? w _ hx208_1)).trans hx208_1
                          replace hx208_2 := (HB.out.cell (World.block_lt_of_cell? w _ hx208_2)).trans hx208_2
                          replace hx208_3 := (HB.out.cell (World.block_lt_of_cell? w _ hx208_3)).trans hx208_3
                          replace p208 := eq_true p208
                          replace q208 := eq_true q208
                          have p209 : 0 ≤ (x4_1 : Int) := of_decide_eq_true (by first | (with_reducible assumption) | assumption)
                          have q209 : x4_1 < (l0_1.length : Int) := of_decide_eq_true (by first | (with_reducible assumption) | assumption)
                          obtain ⟨ad209, e209, hx209_0, hx209_1, hx209_2, hx209_3⟩ := at_T36 HR0_1.out x4_1 p209 q209
                          have hw209_3 := hx209_3
                          have hw209_2 := hx209_2
                          have hw209_1 := hx209_1
                          have hw209_0 := hx209_0
                          (try rw [← Nbq30.out] at hx209_3)
                          obtain rfl : ad208 = ad209 := (by injection e209)
                          replace hx209_0 := (HB.out.cell (World.block_lt_of_cell? w _ hx209_0)).trans hx209_0
                          replace hx209_1 := (HB.out.cell (World.block_lt_of_cell? w _ hx209_1)).trans hx209_1
                          replace hx209_2 := (HB.out.cell (World.block_lt_of_cell? w _ hx209_2)).trans hx209_2
                          replace hx209_3 := (HB.out.cell (World.block_lt_of_cell? w _ hx209_3)).trans hx209_3
                          replace p209 := eq_true p209
                          replace q209 := eq_true q209
                          refine start_ (n := 18) (S := fun w' => w'.cell? ⟨gb203, 0, none⟩ = some (.string a0_0) ∧ w'.cell? ⟨gb203, 1, none⟩ = some (.slice (some ad208) l0_1.length c0_1) ∧ w'.cell? (ad208.add ((x4_1).toNat * 4)) = some (.string ((rd_T36 l0_1 x4_1).f0)) ∧ w'.cell? ⟨(ad208.add ((x4_1).toNat * 4)).block, (ad208.add ((x4_1).toNat * 4)).off + 1, none⟩ = some (.int .i64 ((rd_T36 l0_1 x4_1).f1.f0)) ∧ w'.cell? ⟨(ad208.add ((x4_1).toNat * 4)).block, (ad208.add ((x4_1).toNat * 4)).off + 2, none⟩ = some (.int .i64 ((rd_T36 l0_1 x4_1).f1.f1)) ∧ w'.cell? ⟨(ad208.add ((x4_1).toNat * 4)).block, (ad208.add ((x4_1).toNat * 4)).off + 3, none⟩ = some (.bool true) ∧ w'.cell? (ad208.add ((x4_1).toNat * 4)) = some (.string ((rd_T36 l0_1 x4_1).f0)) ∧ w'.cell? ⟨(ad208.add ((x4_1).toNat * 4)).block, (ad208.add ((x4_1).toNat * 4)).off + 1, none⟩ = some (.int .i64 ((rd_T36 l0_1 x4_1).f1.f0)) ∧ w'.cell? ⟨(ad208.add ((x4_1).toNat * 4)).block, (ad208.add ((x4_1).toNat * 4)).off + 2, none⟩ = some (.int .i64 ((rd_T36 l0_1 x4_1).f1.f1)) ∧ w'.cell? ⟨(ad208.add ((x4_1).toNat * 4)).block, (ad208.add ((x4_1).toNat * 4)).off + 3, none⟩ = some (.bool true)) (ds := []) #[false, false, false, false, false, false, false, false, false, false, false, false, false, false, false, false, false, false] (by kernel_rfl) rfl rfl ⟨(blk_cell BK203.out 0).trans rfl, (blk_cell BK203.out 1).trans rfl, ((HB.out.cell (World.block_lt_of_cell? w _ hw208_0)).trans (by first | exact hw208_0 | (rw [Nbq30.out]; exact hw208_0))), ((HB.out.cell (World.block_lt_of_cell? w _ hw208_1)).trans (by first | exact hw208_1 | (rw [Nbq30.out]; exact hw208_1))), ((HB.out.cell (World.block_lt_of_cell? w _ hw208_2)).trans (by first | exact hw208_2 | (rw [Nbq30.out]; exact hw208_2))), ((HB.out.cell (World.block_lt_of_cell? w _ hw208_3)).trans (by first | exact hw208_3 | (rw [Nbq30.out]; exact hw208_3))), ((HB.out.cell (World.block_lt_of_cell? w _ hw209_0)).trans (by first | exact hw209_0 | (rw [Nbq30.out]; exact hw209_0))), ((HB.out.cell (World.block_lt_of_cell? w _ hw209_1)).trans (by first | exact hw209_1 | (rw [Nbq30.out]; exact hw209_1))), ((HB.out.cell (World.block_lt_of_cell? w _ hw209_2)).trans (by first | exact hw209_2 | (rw [Nbq30.out]; exact hw209_2))), ((HB.out.cell (World.block_lt_of_cell? w _ hw209_3)).trans (by first | exact hw209_3 | (rw [Nbq30.out]; exact hw209_3)))⟩ (fun hHeld => ?_); refine with_tabW colonnaderef11_Show.tab7 colonnaderef11_Show.bits7 (fun HT_ HW_ => ?_)
                          generalize wr.drew = w34 at BK203 HB hx208_0 hx208_1 hx208_2 hx208_3 hx209_0 hx209_1 hx209_2 hx209_3 hHeld ⊢
                          refine pure_ (i := 0) (N := some 20) (v := ?_) (a' := ?_) #[true, false, false, false, false, false, false, false, false, false, false, false, false, false, false, false, false, false] rfl rfl (any_of HT_.out (by kernel_rfl)) (fun _ _ _ h => h) (Or.inl ⟨by rfl, ?_⟩) ?_ ?_
                          rotate_left
                          · intro w'
                            go_simp
                            with_reducible rfl
                          rotate_left
                          · simp only [Act.put, List.setIfInBounds_toArray, List.set_cons_zero, List.set_cons_succ, i64_w, i32_w]
                            rfl
                          refine pure_ (i := 1) (N := some 21) (v := ?_) (a' := ?_) #[true, true, false, false, false, false, false, false, false, false, false, false, false, false, false, false, false, false] rfl rfl (any_of HT_.out (by kernel_rfl)) (fun _ _ _ h => h) (Or.inl ⟨by rfl, ?_⟩) ?_ ?_
                          rotate_left
                          · intro w'
                            go_simp
                            with_reducible rfl
                          rotate_left
                          · simp only [Act.put, List.setIfInBounds_toArray, List.set_cons_zero, List.set_cons_succ, i64_w, i32_w]
                            rfl
                          refine pure_ (i := 3) (N := some 23) (v := ?_) (a' := ?_) #[true, true, false, true, false, false, false, false, false, false, false, false, false, false, false, false, false, false] rfl rfl (any_of HT_.out (by kernel_rfl)) (fun _ _ _ h => h) (Or.inl ⟨by rfl, ?_⟩) ?_ ?_
                          rotate_left
                          · intro w'
                            go_simp
                            with_reducible rfl
                          rotate_left
                          · simp only [Act.put, List.setIfInBounds_toArray, List.set_cons_zero, List.set_cons_succ, i64_w, i32_w]
                            rfl
                          refine pure_ (i := 8) (N := some 28) (v := ?_) (a' := ?_) #[true, true, false, true, false, false, false, false, true, false, false, false, false, false, false, false, false, false] rfl rfl (any_of HT_.out (by kernel_rfl)) (fun _ _ _ h => h) (Or.inl ⟨by rfl, ?_⟩) ?_ ?_
                          rotate_left
                          · intro w'
                            go_simp
                            with_reducible rfl
                          rotate_left
                          · simp only [Act.put, List.setIfInBounds_toArray, List.set_cons_zero, List.set_cons_succ, i64_w, i32_w]
                            rfl
                          refine pure_ (i := 10) (N := some 30) (v := ?_) (a' := ?_) #[true, true, false, true, false, false, false, false, true, false, true, false, false, false, false, false, false, false] rfl rfl (any_of HT_.out (by kernel_rfl)) (fun _ _ _ h => h) (Or.inl ⟨by rfl, ?_⟩) ?_ ?_
                          rotate_left
                          · intro w'
                            go_simp
                            with_reducible rfl
                          rotate_left
                          · simp only [Act.put, List.setIfInBounds_toArray, List.set_cons_zero, List.set_cons_succ, i64_w, i32_w]
                            rfl
                          refine take_ (i := 2) (N := some 22) (v := ?_) (a' := ?_) #[true, true, true, true, false, false, false, false, true, false, true, false, false, false, false, false, false, false] rfl rfl (take_ofW HT_.out HW_.out (by kernel_rfl)) (fun _ _ _ h => h) (Or.inl ⟨by rfl, ?_⟩) hHeld ?_ ?_
                          rotate_left
                          · rintro w' ⟨s0, s1, s2, s3, s4, s5, s6, s7, s8, s9⟩
                            go_simp
                            with_reducible rfl
                          rotate_left
                          · simp only [Act.put, List.setIfInBounds_toArray, List.set_cons_zero, List.set_cons_succ, i64_w, i32_w]
                            rfl
                          refine pure_ (i := 4) (N := some 24) (v := ?_) (a' := ?_) #[true, true, true, true, true, false, false, false, true, false, true, false, false, false, false, false, false, false] rfl rfl (any_of HT_.out (by kernel_rfl)) (fun _ _ _ h => h) (Or.inl ⟨by rfl, ?_⟩) ?_ ?_
                          rotate_left
                          · intro w'
                            go_simp
                            with_reducible rfl
                          rotate_left
                          · simp only [Act.put, List.setIfInBounds_toArray, List.set_cons_zero, List.set_cons_succ, i64_w, i32_w]
                            rfl
                          refine pure_ (i := 5) (N := some 25) (v := ?_) (a' := ?_) #[true, true, true, true, true, true, false, false, true, false, true, false, false, false, false, false, false, false] rfl rfl (any_of HT_.out (by kernel_rfl)) (fun _ _ _ h => h) (Or.inl ⟨by rfl, ?_⟩) ?_ ?_
                          rotate_left
                          · intro w'
                            go_simp
                            with_reducible rfl
                          rotate_left
                          · simp only [Act.put, List.setIfInBounds_toArray, List.set_cons_zero, List.set_cons_succ, i64_w, i32_w]
                            rfl
                          refine take_ (i := 6) (N := some 26) (v := ?_) (a' := ?_) #[true, true, true, true, true, true, true, false, true, false, true, false, false, false, false, false, false, false] rfl rfl (take_ofW HT_.out HW_.out (by kernel_rfl)) (fun _ _ _ h => h) (Or.inl ⟨by rfl, ?_⟩) hHeld ?_ ?_
                          rotate_left
                          · rintro w' ⟨s0, s1, s2, s3, s4, s5, s6, s7, s8, s9⟩
                            go_simp
                            with_reducible rfl
                          rotate_left
                          · simp only [Act.put, List.setIfInBounds_toArray, List.set_cons_zero, List.set_cons_succ, i64_w, i32_w]
                            rfl
                          refine pure_ (i := 7) (N := some 27) (v := ?_) (a' := ?_) #[true, true, true, true, true, true, true, true, true, false, true, false, false, false, false, false, false, false] rfl rfl (any_of HT_.out (by kernel_rfl)) (fun _ _ _ h => h) (Or.inl ⟨by rfl, ?_⟩) ?_ ?_
                          rotate_left
                          · intro w'
                            go_simp
                            with_reducible rfl
                          rotate_left
                          · simp only [Act.put, List.setIfInBounds_toArray, List.set_cons_zero, List.set_cons_succ, i64_w, i32_w]
                            rfl
                          refine take_ (i := 9) (N := some 29) (v := ?_) (a' := ?_) #[true, true, true, true, true, true, true, true, true, true, true, false, false, false, false, false, false, false] rfl rfl (take_ofW HT_.out HW_.out (by kernel_rfl)) (fun _ _ _ h => h) (Or.inl ⟨by rfl, ?_⟩) hHeld ?_ ?_
                          rotate_left
                          · rintro w' ⟨s0, s1, s2, s3, s4, s5, s6, s7, s8, s9⟩
                            go_simp
                            with_reducible rfl
                          rotate_left
                          · simp only [Act.put, List.setIfInBounds_toArray, List.set_cons_zero, List.set_cons_succ, i64_w, i32_w]
                            rfl
                          refine pure_ (i := 11) (N := some 31) (v := ?_) (a' := ?_) #[true, true, true, true, true, true, true, true, true, true, true, true, false, false, false, false, false, false] rfl rfl (any_of HT_.out (by kernel_rfl)) (fun _ _ _ h => h) (Or.inl ⟨by rfl, ?_⟩) ?_ ?_
                          rotate_left
                          · intro w'
                            go_simp
                            with_reducible rfl
                          rotate_left
                          · simp only [Act.put, List.setIfInBounds_toArray, List.set_cons_zero, List.set_cons_succ, i64_w, i32_w]
                            rfl
                          refine pure_ (i := 12) (N := some 32) (v := ?_) (a' := ?_) #[true, true, true, true, true, true, true, true, true, true, true, true, true, false, false, false, false, false] rfl rfl (any_of HT_.out (by kernel_rfl)) (fun _ _ _ h => h) (Or.inl ⟨by rfl, ?_⟩) ?_ ?_
                          rotate_left
                          · intro w'
                            go_simp
                            with_reducible rfl
                          rotate_left
                          · simp only [Act.put, List.setIfInBounds_toArray, List.set_cons_zero, List.set_cons_succ, i64_w, i32_w]
                            rfl
                          refine take_ (i := 13) (N := some 33) (v := ?_) (a' := ?_) #[true, true, true, true, true, true, true, true, true, true, true, true, true, true, false, false, false, false] rfl rfl (take_ofW HT_.out HW_.out (by kernel_rfl)) (fun _ _ _ h => h) (Or.inl ⟨by rfl, ?_⟩) hHeld ?_ ?_
                          rotate_left
                          · rintro w' ⟨s0, s1, s2, s3, s4, s5, s6, s7, s8, s9⟩
                            go_simp
                            with_reducible rfl
                          rotate_left
                          · simp only [Act.put, List.setIfInBounds_toArray, List.set_cons_zero, List.set_cons_succ, i64_w, i32_w]
                            rfl
                          refine one_ (i := 14) (N := some 34) #[true, true, true, true, true, true, true, true, true, true, true, true, true, true, true, false, false, false] rfl rfl (one_of HT_.out (by kernel_rfl)) (by decide) (fun K hK => ?_)
                          refine goes_ Tryz.func15 (by kernel_rfl) rfl #[.agg #[.int .i64 ((rd_T36 l0_1 x4_1).f1.f0), .int .i64 ((rd_T36 l0_1 x4_1).f1.f1)]] (by rfl) rfl rfl (by (try simp only [List.map_toArray, List.map_cons, List.map_nil]); first | done | rfl | (simp only [List.length_drop, List.length_take]; rfl)) ?_
                          with_reducible refine (colonnaderef11_TypeName.calls k1 ((rd_T36 l0_1 x4_1).f1.f0) ((rd_T36 l0_1 x4_1).f1.f1) t210 _ A27.out).mono ?_
                          rintro e w35 ⟨rfl, hb⟩
                          refine ⟨_, rfl, ?_⟩
                          have n0_ := Aside0.mk (blk_below (g := gb203) (o := .cells #[.string a0_0, .slice (some ad208) l0_1.length c0_1] 24 (0, 0)) (by (with_reducible repeat (first | refine blk_drewN ?_ _ | refine blk_drew ?_ | refine blk_alloc ?_ _)); exact BK203.out) hb)
                          have n1_ := Aside0.mk (below_step (by repeat (first | (with_reducible first | exact HB.out | apply below_alloc | apply pw_below_drewN | apply below_drew1 | refine below_set ?_ GE203.out) | exact HB.out)) hb)
                          clear BK203
                          clear HB
                          have BK203 := n0_
                          have HB := n1_
                          clear n0_ n1_
                          (try clear hb)
                          (try clear hb2)
                          (try clear hk)
                          (try clear hi)
                          refine hK.out _ _ ⟨(blk_cell BK203.out 0).trans rfl, (blk_cell BK203.out 1).trans rfl, ((HB.out.cell (World.block_lt_of_cell? w _ hw208_0)).trans (by first | exact hw208_0 | (rw [Nbq30.out]; exact hw208_0))), ((HB.out.cell (World.block_lt_of_cell? w _ hw208_1)).trans (by first | exact hw208_1 | (rw [Nbq30.out]; exact hw208_1))), ((HB.out.cell (World.block_lt_of_cell? w _ hw208_2)).trans (by first | exact hw208_2 | (rw [Nbq30.out]; exact hw208_2))), ((HB.out.cell (World.block_lt_of_cell? w _ hw208_3)).trans (by first | exact hw208_3 | (rw [Nbq30.out]; exact hw208_3))), ((HB.out.cell (World.block_lt_of_cell? w _ hw209_0)).trans (by first | exact hw209_0 | (rw [Nbq30.out]; exact hw209_0))), ((HB.out.cell (World.block_lt_of_cell? w _ hw209_1)).trans (by first | exact hw209_1 | (rw [Nbq30.out]; exact hw209_1))), ((HB.out.cell (World.block_lt_of_cell? w _ hw209_2)).trans (by first | exact hw209_2 | (rw [Nbq30.out]; exact hw209_2))), ((HB.out.cell (World.block_lt_of_cell? w _ hw209_3)).trans (by first | exact hw209_3 | (rw [Nbq30.out]; exact hw209_3)))⟩ (fun hHeld => ?_)
                          clear hK K
                          refine norm_ (a' := ?_) ?_ ?_
                          rotate_left
                          · show Act.put _ (some 34) _ = _
                            simp only [Act.put, List.setIfInBounds_toArray, List.set_cons_zero, List.set_cons_succ, i64_w, i32_w]
                            rfl
                          refine pure_ (i := 15) (N := some 35) (v := ?_) (a' := ?_) #[true, true, true, true, true, true, true, true, true, true, true, true, true, true, true, true, false, false] rfl rfl (any_of HT_.out (by kernel_rfl)) (fun _ _ _ h => h) (Or.inl ⟨by rfl, ?_⟩) ?_ ?_
                          rotate_left
                          · intro w'
                            go_simp
                            with_reducible rfl
                          rotate_left
                          · simp only [Act.put, List.setIfInBounds_toArray, List.set_cons_zero, List.set_cons_succ, i64_w, i32_w]
                            rfl
                          refine pure_ (i := 16) (N := some 36) (v := ?_) (a' := ?_) #[true, true, true, true, true, true, true, true, true, true, true, true, true, true, true, true, true, false] rfl rfl (any_of HT_.out (by kernel_rfl)) (fun _ _ _ h => h) (Or.inl ⟨by rfl, ?_⟩) ?_ ?_
                          rotate_left
                          · intro w'
                            go_simp
                            with_reducible rfl
                          rotate_left
                          · simp only [Act.put, List.setIfInBounds_toArray, List.set_cons_zero, List.set_cons_succ, i64_w, i32_w]
                            rfl
                          refine pure_ (i := 17) (N := some 3) (v := ?_) (a' := ?_) #[true, true, true, true, true, true, true, true, true, true, true, true, true, true, true, true, true, true] rfl rfl (any_of HT_.out (by kernel_rfl)) (fun _ _ _ h => h) (Or.inl ⟨by rfl, ?_⟩) ?_ ?_
                          rotate_left
                          · intro w'
                            go_simp
                            with_reducible rfl
                          rotate_left
                          · simp only [Act.put, List.setIfInBounds_toArray, List.set_cons_zero, List.set_cons_succ, i64_w, i32_w]
                            rfl
                          refine done_ (done_of HT_.out (by kernel_rfl)) ?_
                          have hcz36_0 : w35.cell? ⟨gb203, 0, none⟩ = some (.string a0_0) := (blk_cell BK203.out 0).trans rfl
                          have hcz36_1 : w35.cell? ⟨gb203, 1, none⟩ = some (.slice (some ad208) l0_1.length c0_1) := (blk_cell BK203.out 1).trans rfl
                          have hfz36_0 := blk_frozen BK203.out 0
                          have hfz36_1 := blk_frozen BK203.out 1
                          have p211 : 0 ≤ (x4_1 : Int) := of_decide_eq_true (by first | (with_reducible assumption) | assumption)
                          have q211 : x4_1 < (l0_1.length : Int) := of_decide_eq_true (by first | (with_reducible assumption) | assumption)
                          obtain ⟨ad211, e211, hx211_0, hx211_1, hx211_2, hx211_3⟩ := at_T36 HR0_1.out x4_1 p211 q211
                          (try rw [← Nbq30.out] at hx211_3)
                          obtain rfl : ad208 = ad211 := (by injection e211)
                          replace hx211_0 := (HB.out.cell (World.block_lt_of_cell? w _ hx211_0)).trans hx211_0
                          replace hx211_1 := (HB.out.cell (World.block_lt_of_cell? w _ hx211_1)).trans hx211_1
                          replace hx211_2 := (HB.out.cell (World.block_lt_of_cell? w _ hx211_2)).trans hx211_2
                          replace hx211_3 := (HB.out.cell (World.block_lt_of_cell? w _ hx211_3)).trans hx211_3
                          replace p211 := eq_true p211
                          replace q211 := eq_true q211
                          try go_wp2
                          go_roundg k1
                          case measure => have := HK1.out; omega
                          case rel => exact ⟨((x3_1 ++ ((((rd_T36 l0_1 x4_1).f0) ++ (⟨#[32]⟩ : ByteArray)) ++ t210)) ++ (⟨#[32, 78, 79, 84, 32, 78, 85, 76, 76]⟩ : ByteArray)), (wrap64 (x4_1 + 1)), (by first | rfl | (simp; done) | (simp [*]; done)), (by first | rfl | (simp; done) | (simp [*]; done)), H', ⟨by have := HK1.out; omega⟩, ⟨by (with_reducible repeat (first | refine blk_drewN ?_ _ | refine blk_drew ?_ | refine blk_alloc ?_ _)); exact BK203.out⟩, ⟨by repeat (first | (with_reducible first | exact HB.out | apply below_alloc | apply pw_below_drewN | apply below_drew1 | refine below_set ?_ GE203.out) | exact HB.out)⟩⟩
                        · rw [if_neg c32] at H
                          exact absurd H (by simp)
                      · replace c31 := Bool.eq_false_iff.mpr c31
                        subst c31
                        have H1 : (colonnaderef11_Show.l0 k1 (x3_1 ++ ((((rd_T36 l0_1 x4_1).f0) ++ (⟨#[32]⟩ : ByteArray)) ++ t210)) (wrap64 (x4_1 + 1)) a0_0 l0_1) = some r := by rw [if_neg (show ¬ (false = true) by decide)] at H; exact H
                        clear H
                        have H := H1
                        clear H1
                        have H' := Aside0.mk H
                        clear H
                        have hcz37_0 : wr.cell? ⟨gb203, 0, none⟩ = some (.string a0_0) := (blk_cell BK203.out 0).trans rfl
                        have hcz37_1 : wr.cell? ⟨gb203, 1, none⟩ = some (.slice A0_1 l0_1.length c0_1) := (blk_cell BK203.out 1).trans rfl
                        have hfz37_0 := blk_frozen BK203.out 0
                        have hfz37_1 := blk_frozen BK203.out 1
                        try go_wp2
                        have n0_ := Aside0.mk (blk_drew BK203.out)
                        have n1_ := Aside0.mk (below_drew1 HB.out)
                        clear BK203
                        clear HB
                        have BK203 := n0_
                        have HB := n1_
                        clear n0_ n1_
                        have p208 : 0 ≤ (x4_1 : Int) := of_decide_eq_true (by first | (with_reducible assumption) | assumption)
                        have q208 : x4_1 < (l0_1.length : Int) := of_decide_eq_true (by first | (with_reducible assumption) | assumption)
                        obtain ⟨ad208, e208, hx208_0, hx208_1, hx208_2, hx208_3⟩ := at_T36 HR0_1.out x4_1 p208 q208
                        have hw208_3 := hx208_3
                        have hw208_2 := hx208_2
                        have hw208_1 := hx208_1
                        have hw208_0 := hx208_0
                        (try rw [← Nbq30.out] at hx208_3)
                        cases e208
                        replace hx208_0 := (HB.out.cell (World.block_lt_of_cell? w _ hx208_0)).trans hx208_0
                        replace hx208_1 := (HB.out.cell (World.block_lt_of_cell? w _ hx208_1)).trans hx208_1
                        replace hx208_2 := (HB.out.cell (World.block_lt_of_cell? w _ hx208_2)).trans hx208_2
                        replace hx208_3 := (HB.out.cell (World.block_lt_of_cell? w _ hx208_3)).trans hx208_3
                        replace p208 := eq_true p208
                        replace q208 := eq_true q208
                        have p209 : 0 ≤ (x4_1 : Int) := of_decide_eq_true (by first | (with_reducible assumption) | assumption)
                        have q209 : x4_1 < (l0_1.length : Int) := of_decide_eq_true (by first | (with_reducible assumption) | assumption)
                        obtain ⟨ad209, e209, hx209_0, hx209_1, hx209_2, hx209_3⟩ := at_T36 HR0_1.out x4_1 p209 q209
                        have hw209_3 := hx209_3
                        have hw209_2 := hx209_2
                        have hw209_1 := hx209_1
                        have hw209_0 := hx209_0
                        (try rw [← Nbq30.out] at hx209_3)
                        obtain rfl : ad208 = ad209 := (by injection e209)
                        replace hx209_0 := (HB.out.cell (World.block_lt_of_cell? w _ hx209_0)).trans hx209_0
                        replace hx209_1 := (HB.out.cell (World.block_lt_of_cell? w _ hx209_1)).trans hx209_1
                        replace hx209_2 := (HB.out.cell (World.block_lt_of_cell? w _ hx209_2)).trans hx209_2
                        replace hx209_3 := (HB.out.cell (World.block_lt_of_cell? w _ hx209_3)).trans hx209_3
                        replace p209 := eq_true p209
                        replace q209 := eq_true q209
                        refine start_ (n := 18) (S := fun w' => w'.cell? ⟨gb203, 0, none⟩ = some (.string a0_0) ∧ w'.cell? ⟨gb203, 1, none⟩ = some (.slice (some ad208) l0_1.length c0_1) ∧ w'.cell? (ad208.add ((x4_1).toNat * 4)) = some (.string ((rd_T36 l0_1 x4_1).f0)) ∧ w'.cell? ⟨(ad208.add ((x4_1).toNat * 4)).block, (ad208.add ((x4_1).toNat * 4)).off + 1, none⟩ = some (.int .i64 ((rd_T36 l0_1 x4_1).f1.f0)) ∧ w'.cell? ⟨(ad208.add ((x4_1).toNat * 4)).block, (ad208.add ((x4_1).toNat * 4)).off + 2, none⟩ = some (.int .i64 ((rd_T36 l0_1 x4_1).f1.f1)) ∧ w'.cell? ⟨(ad208.add ((x4_1).toNat * 4)).block, (ad208.add ((x4_1).toNat * 4)).off + 3, none⟩ = some (.bool false) ∧ w'.cell? (ad208.add ((x4_1).toNat * 4)) = some (.string ((rd_T36 l0_1 x4_1).f0)) ∧ w'.cell? ⟨(ad208.add ((x4_1).toNat * 4)).block, (ad208.add ((x4_1).toNat * 4)).off + 1, none⟩ = some (.int .i64 ((rd_T36 l0_1 x4_1).f1.f0)) ∧ w'.cell? ⟨(ad208.add ((x4_1).toNat * 4)).block, (ad208.add ((x4_1).toNat * 4)).off + 2, none⟩ = some (.int .i64 ((rd_T36 l0_1 x4_1).f1.f1)) ∧ w'.cell? ⟨(ad208.add ((x4_1).toNat * 4)).block, (ad208.add ((x4_1).toNat * 4)).off + 3, none⟩ = some (.bool false)) (ds := []) #[false, false, false, false, false, false, false, false, false, false, false, false, false, false, false, false, false, false] (by kernel_rfl) rfl rfl ⟨(blk_cell BK203.out 0).trans rfl, (blk_cell BK203.out 1).trans rfl, ((HB.out.cell (World.block_lt_of_cell? w _ hw208_0)).trans (by first | exact hw208_0 | (rw [Nbq30.out]; exact hw208_0))), ((HB.out.cell (World.block_lt_of_cell? w _ hw208_1)).trans (by first | exact hw208_1 | (rw [Nbq30.out]; exact hw208_1))), ((HB.out.cell (World.block_lt_of_cell? w _ hw208_2)).trans (by first | exact hw208_2 | (rw [Nbq30.out]; exact hw208_2))), ((HB.out.cell (World.block_lt_of_cell? w _ hw208_3)).trans (by first | exact hw208_3 | (rw [Nbq30.out]; exact hw208_3))), ((HB.out.cell (World.block_lt_of_cell? w _ hw209_0)).trans (by first | exact hw209_0 | (rw [Nbq30.out]; exact hw209_0))), ((HB.out.cell (World.block_lt_of_cell? w _ hw209_1)).trans (by first | exact hw209_1 | (rw [Nbq30.out]; exact hw209_1))), ((HB.out.cell (World.block_lt_of_cell? w _ hw209_2)).trans (by first | exact hw209_2 | (rw [Nbq30.out]; exact hw209_2))), ((HB.out.cell (World.block_lt_of_cell? w _ hw209_3)).trans (by first | exact hw209_3 | (rw [Nbq30.out]; exact hw209_3)))⟩ (fun hHeld => ?_); refine with_tabW colonnaderef11_Show.tab7 colonnaderef11_Show.bits7 (fun HT_ HW_ => ?_)
                        generalize wr.drew = w38 at BK203 HB hx208_0 hx208_1 hx208_2 hx208_3 hx209_0 hx209_1 hx209_2 hx209_3 hHeld ⊢
                        refine pure_ (i := 0) (N := some 20) (v := ?_) (a' := ?_) #[true, false, false, false, false, false, false, false, false, false, false, false, false, false, false, false, false, false] rfl rfl (any_of HT_.out (by kernel_rfl)) (fun _ _ _ h => h) (Or.inl ⟨by rfl, ?_⟩) ?_ ?_
                        rotate_left
                        · intro w'
                          go_simp
                          with_reducible rfl
                        rotate_left
                        · simp only [Act.put, List.setIfInBounds_toArray, List.set_cons_zero, List.set_cons_succ, i64_w, i32_w]
                          rfl
                        refine pure_ (i := 1) (N := some 21) (v := ?_) (a' := ?_) #[true, true, false, false, false, false, false, false, false, false, false, false, false, false, false, false, false, false] rfl rfl (any_of HT_.out (by kernel_rfl)) (fun _ _ _ h => h) (Or.inl ⟨by rfl, ?_⟩) ?_ ?_
                        rotate_left
                        · intro w'
                          go_simp
                          with_reducible rfl
                        rotate_left
                        · simp only [Act.put, List.setIfInBounds_toArray, List.set_cons_zero, List.set_cons_succ, i64_w, i32_w]
                          rfl
                        refine pure_ (i := 3) (N := some 23) (v := ?_) (a' := ?_) #[true, true, false, true, false, false, false, false, false, false, false, false, false, false, false, false, false, false] rfl rfl (any_of HT_.out (by kernel_rfl)) (fun _ _ _ h => h) (Or.inl ⟨by rfl, ?_⟩) ?_ ?_
                        rotate_left
                        · intro w'
                          go_simp
                          with_reducible rfl
                        rotate_left
                        · simp only [Act.put, List.setIfInBounds_toArray, List.set_cons_zero, List.set_cons_succ, i64_w, i32_w]
                          rfl
                        refine pure_ (i := 8) (N := some 28) (v := ?_) (a' := ?_) #[true, true, false, true, false, false, false, false, true, false, false, false, false, false, false, false, false, false] rfl rfl (any_of HT_.out (by kernel_rfl)) (fun _ _ _ h => h) (Or.inl ⟨by rfl, ?_⟩) ?_ ?_
                        rotate_left
                        · intro w'
                          go_simp
                          with_reducible rfl
                        rotate_left
                        · simp only [Act.put, List.setIfInBounds_toArray, List.set_cons_zero, List.set_cons_succ, i64_w, i32_w]
                          rfl
                        refine pure_ (i := 10) (N := some 30) (v := ?_) (a' := ?_) #[true, true, false, true, false, false, false, false, true, false, true, false, false, false, false, false, false, false] rfl rfl (any_of HT_.out (by kernel_rfl)) (fun _ _ _ h => h) (Or.inl ⟨by rfl, ?_⟩) ?_ ?_
                        rotate_left
                        · intro w'
                          go_simp
                          with_reducible rfl
                        rotate_left
                        · simp only [Act.put, List.setIfInBounds_toArray, List.set_cons_zero, List.set_cons_succ, i64_w, i32_w]
                          rfl
                        refine take_ (i := 2) (N := some 22) (v := ?_) (a' := ?_) #[true, true, true, true, false, false, false, false, true, false, true, false, false, false, false, false, false, false] rfl rfl (take_ofW HT_.out HW_.out (by kernel_rfl)) (fun _ _ _ h => h) (Or.inl ⟨by rfl, ?_⟩) hHeld ?_ ?_
                        rotate_left
                        · rintro w' ⟨s0, s1, s2, s3, s4, s5, s6, s7, s8, s9⟩
                          go_simp
                          with_reducible rfl
                        rotate_left
                        · simp only [Act.put, List.setIfInBounds_toArray, List.set_cons_zero, List.set_cons_succ, i64_w, i32_w]
                          rfl
                        refine pure_ (i := 4) (N := some 24) (v := ?_) (a' := ?_) #[true, true, true, true, true, false, false, false, true, false, true, false, false, false, false, false, false, false] rfl rfl (any_of HT_.out (by kernel_rfl)) (fun _ _ _ h => h) (Or.inl ⟨by rfl, ?_⟩) ?_ ?_
                        rotate_left
                        · intro w'
                          go_simp
                          with_reducible rfl
                        rotate_left
                        · simp only [Act.put, List.setIfInBounds_toArray, List.set_cons_zero, List.set_cons_succ, i64_w, i32_w]
                          rfl
                        refine pure_ (i := 5) (N := some 25) (v := ?_) (a' := ?_) #[true, true, true, true, true, true, false, false, true, false, true, false, false, false, false, false, false, false] rfl rfl (any_of HT_.out (by kernel_rfl)) (fun _ _ _ h => h) (Or.inl ⟨by rfl, ?_⟩) ?_ ?_
                        rotate_left
                        · intro w'
                          go_simp
                          with_reducible rfl
                        rotate_left
                        · simp only [Act.put, List.setIfInBounds_toArray, List.set_cons_zero, List.set_cons_succ, i64_w, i32_w]
                          rfl
                        refine take_ (i := 6) (N := some 26) (v := ?_) (a' := ?_) #[true, true, true, true, true, true, true, false, true, false, true, false, false, false, false, false, false, false] rfl rfl (take_ofW HT_.out HW_.out (by kernel_rfl)) (fun _ _ _ h => h) (Or.inl ⟨by rfl, ?_⟩) hHeld ?_ ?_
                        rotate_left
                        · rintro w' ⟨s0, s1, s2, s3, s4, s5, s6, s7, s8, s9⟩
                          go_simp
                          with_reducible rfl
                        rotate_left
                        · simp only [Act.put, List.setIfInBounds_toArray, List.set_cons_zero, List.set_cons_succ, i64_w, i32_w]
                          rfl
                        refine pure_ (i := 7) (N := some 27) (v := ?_) (a' := ?_) #[true, true, true, true, true, true, true, true, true, false, true, false, false, false, false, false, false, false] rfl rfl (any_of HT_.out (by kernel_rfl)) (fun _ _ _ h => h) (Or.inl ⟨by rfl, ?_⟩) ?_ ?_
                        rotate_left
                        · intro w'
                          go_simp
                          with_reducible rfl
                        rotate_left
                        · simp only [Act.put, List.setIfInBounds_toArray, List.set_cons_zero, List.set_cons_succ, i64_w, i32_w]
                          rfl
                        refine take_ (i := 9) (N := some 29) (v := ?_) (a' := ?_) #[true, true, true, true, true, true, true, true, true, true, true, false, false, false, false, false, false, false] rfl rfl (take_ofW HT_.out HW_.out (by kernel_rfl)) (fun _ _ _ h => h) (Or.inl ⟨by rfl, ?_⟩) hHeld ?_ ?_
                        rotate_left
                        · rintro w' ⟨s0, s1, s2, s3, s4, s5, s6, s7, s8, s9⟩
                          go_simp
                          with_reducible rfl
                        rotate_left
                        · simp only [Act.put, List.setIfInBounds_toArray, List.set_cons_zero, List.set_cons_succ, i64_w, i32_w]
                          rfl
                        refine pure_ (i := 11) (N := some 31) (v := ?_) (a' := ?_) #[true, true, true, true, true, true, true, true, true, true, true, true, false, false, false, false, false, false] rfl rfl (any_of HT_.out (by kernel_rfl)) (fun _ _ _ h => h) (Or.inl ⟨by rfl, ?_⟩) ?_ ?_
                        rotate_left
                        · intro w'
                          go_simp
                          with_reducible rfl
                        rotate_left
                        · simp only [Act.put, List.setIfInBounds_toArray, List.set_cons_zero, List.set_cons_succ, i64_w, i32_w]
                          rfl
                        refine pure_ (i := 12) (N := some 32) (v := ?_) (a' := ?_) #[true, true, true, true, true, true, true, true, true, true, true, true, true, false, false, false, false, false] rfl rfl (any_of HT_.out (by kernel_rfl)) (fun _ _ _ h => h) (Or.inl ⟨by rfl, ?_⟩) ?_ ?_
                        rotate_left
                        · intro w'
                          go_simp
                          with_reducible rfl
                        rotate_left
                        · simp only [Act.put, List.setIfInBounds_toArray, List.set_cons_zero, List.set_cons_succ, i64_w, i32_w]
                          rfl
                        refine take_ (i := 13) (N := some 33) (v := ?_) (a' := ?_) #[true, true, true, true, true, true, true, true, true, true, true, true, true, true, false, false, false, false] rfl rfl (take_ofW HT_.out HW_.out (by kernel_rfl)) (fun _ _ _ h => h) (Or.inl ⟨by rfl, ?_⟩) hHeld ?_ ?_
                        rotate_left
                        · rintro w' ⟨s0, s1, s2, s3, s4, s5, s6, s7, s8, s9⟩
                          go_simp
                          with_reducible rfl
                        rotate_left
                        · simp only [Act.put, List.setIfInBounds_toArray, List.set_cons_zero, List.set_cons_succ, i64_w, i32_w]
                          rfl
                        refine one_ (i := 14) (N := some 34) #[true, true, true, true, true, true, true, true, true, true, true, true, true, true, true, false, false, false] rfl rfl (one_of HT_.out (by kernel_rfl)) (by decide) (fun K hK => ?_)
                        refine goes_ Tryz.func15 (by kernel_rfl) rfl #[.agg #[.int .i64 ((rd_T36 l0_1 x4_1).f1.f0), .int .i64 ((rd_T36 l0_1 x4_1).f1.f1)]] (by rfl) rfl rfl (by (try simp only [List.map_toArray, List.map_cons, List.map_nil]); first | done | rfl | (simp only [List.length_drop, List.length_take]; rfl)) ?_
                        with_reducible refine (colonnaderef11_TypeName.calls k1 ((rd_T36 l0_1 x4_1).f1.f0) ((rd_T36 l0_1 x4_1).f1.f1) t210 _ A27.out).mono ?_
                        rintro e w39 ⟨rfl, hb⟩
                        refine ⟨_, rfl, ?_⟩
                        have n0_ := Aside0.mk (blk_below (g := gb203) (o := .cells #[.string a0_0, .slice (some ad208) l0_1.length c0_1] 24 (0, 0)) (by (with_reducible repeat (first | refine blk_drewN ?_ _ | refine blk_drew ?_ | refine blk_alloc ?_ _)); exact BK203.out) hb)
                        have n1_ := Aside0.mk (below_step (by repeat (first | (with_reducible first | exact HB.out | apply below_alloc | apply pw_below_drewN | apply below_drew1 | refine below_set ?_ GE203.out) | exact HB.out)) hb)
                        clear BK203
                        clear HB
                        have BK203 := n0_
                        have HB := n1_
                        clear n0_ n1_
                        (try clear hb)
                        (try clear hb2)
                        (try clear hk)
                        (try clear hi)
                        refine hK.out _ _ ⟨(blk_cell BK203.out 0).trans rfl, (blk_cell BK203.out 1).trans rfl, ((HB.out.cell (World.block_lt_of_cell? w _ hw208_0)).trans (by first | exact hw208_0 | (rw [Nbq30.out]; exact hw208_0))), ((HB.out.cell (World.block_lt_of_cell? w _ hw208_1)).trans (by first | exact hw208_1 | (rw [Nbq30.out]; exact hw208_1))), ((HB.out.cell (World.block_lt_of_cell? w _ hw208_2)).trans (by first | exact hw208_2 | (rw [Nbq30.out]; exact hw208_2))), ((HB.out.cell (World.block_lt_of_cell? w _ hw208_3)).trans (by first | exact hw208_3 | (rw [Nbq30.out]; exact hw208_3))), ((HB.out.cell (World.block_lt_of_cell? w _ hw209_0)).trans (by first | exact hw209_0 | (rw [Nbq30.out]; exact hw209_0))), ((HB.out.cell (World.block_lt_of_cell? w _ hw209_1)).trans (by first | exact hw209_1 | (rw [Nbq30.out]; exact hw209_1))), ((HB.out.cell (World.block_lt_of_cell? w _ hw209_2)).trans (by first | exact hw209_2 | (rw [Nbq30.out]; exact hw209_2))), ((HB.out.cell (World.block_lt_of_cell? w _ hw209_3)).trans (by first | exact hw209_3 | (rw [Nbq30.out]; exact hw209_3)))⟩ (fun hHeld => ?_)
                        clear hK K
                        refine norm_ (a' := ?_) ?_ ?_
                        rotate_left
                        · show Act.put _ (some 34) _ = _
                          simp only [Act.put, List.setIfInBounds_toArray, List.set_cons_zero, List.set_cons_succ, i64_w, i32_w]
                          rfl
                        refine pure_ (i := 15) (N := some 35) (v := ?_) (a' := ?_) #[true, true, true, true, true, true, true, true, true, true, true, true, true, true, true, true, false, false] rfl rfl (any_of HT_.out (by kernel_rfl)) (fun _ _ _ h => h) (Or.inl ⟨by rfl, ?_⟩) ?_ ?_
                        rotate_left
                        · intro w'
                          go_simp
                          with_reducible rfl
                        rotate_left
                        · simp only [Act.put, List.setIfInBounds_toArray, List.set_cons_zero, List.set_cons_succ, i64_w, i32_w]
                          rfl
                        refine pure_ (i := 16) (N := some 36) (v := ?_) (a' := ?_) #[true, true, true, true, true, true, true, true, true, true, true, true, true, true, true, true, true, false] rfl rfl (any_of HT_.out (by kernel_rfl)) (fun _ _ _ h => h) (Or.inl ⟨by rfl, ?_⟩) ?_ ?_
                        rotate_left
                        · intro w'
                          go_simp
                          with_reducible rfl
                        rotate_left
                        · simp only [Act.put, List.setIfInBounds_toArray, List.set_cons_zero, List.set_cons_succ, i64_w, i32_w]
                          rfl
                        refine pure_ (i := 17) (N := some 3) (v := ?_) (a' := ?_) #[true, true, true, true, true, true, true, true, true, true, true, true, true, true, true, true, true, true] rfl rfl (any_of HT_.out (by kernel_rfl)) (fun _ _ _ h => h) (Or.inl ⟨by rfl, ?_⟩) ?_ ?_
                        rotate_left
                        · intro w'
                          go_simp
                          with_reducible rfl
                        rotate_left
                        · simp only [Act.put, List.setIfInBounds_toArray, List.set_cons_zero, List.set_cons_succ, i64_w, i32_w]
                          rfl
                        refine done_ (done_of HT_.out (by kernel_rfl)) ?_
                        have hcz40_0 : w39.cell? ⟨gb203, 0, none⟩ = some (.string a0_0) := (blk_cell BK203.out 0).trans rfl
                        have hcz40_1 : w39.cell? ⟨gb203, 1, none⟩ = some (.slice (some ad208) l0_1.length c0_1) := (blk_cell BK203.out 1).trans rfl
                        have hfz40_0 := blk_frozen BK203.out 0
                        have hfz40_1 := blk_frozen BK203.out 1
                        have p211 : 0 ≤ (x4_1 : Int) := of_decide_eq_true (by first | (with_reducible assumption) | assumption)
                        have q211 : x4_1 < (l0_1.length : Int) := of_decide_eq_true (by first | (with_reducible assumption) | assumption)
                        obtain ⟨ad211, e211, hx211_0, hx211_1, hx211_2, hx211_3⟩ := at_T36 HR0_1.out x4_1 p211 q211
                        (try rw [← Nbq30.out] at hx211_3)
                        obtain rfl : ad208 = ad211 := (by injection e211)
                        replace hx211_0 := (HB.out.cell (World.block_lt_of_cell? w _ hx211_0)).trans hx211_0
                        replace hx211_1 := (HB.out.cell (World.block_lt_of_cell? w _ hx211_1)).trans hx211_1
                        replace hx211_2 := (HB.out.cell (World.block_lt_of_cell? w _ hx211_2)).trans hx211_2
                        replace hx211_3 := (HB.out.cell (World.block_lt_of_cell? w _ hx211_3)).trans hx211_3
                        replace p211 := eq_true p211
                        replace q211 := eq_true q211
                        try go_wp2
                        go_roundg k1
                        case measure => have := HK1.out; omega
                        case rel => exact ⟨(x3_1 ++ ((((rd_T36 l0_1 x4_1).f0) ++ (⟨#[32]⟩ : ByteArray)) ++ t210)), (wrap64 (x4_1 + 1)), (by first | rfl | (simp; done) | (simp [*]; done)), (by first | rfl | (simp; done) | (simp [*]; done)), H', ⟨by have := HK1.out; omega⟩, ⟨by (with_reducible repeat (first | refine blk_drewN ?_ _ | refine blk_drew ?_ | refine blk_alloc ?_ _)); exact BK203.out⟩, ⟨by repeat (first | (with_reducible first | exact HB.out | apply below_alloc | apply pw_below_drewN | apply below_drew1 | refine below_set ?_ GE203.out) | exact HB.out)⟩⟩
                    · rw [if_neg c29] at H
                      exact absurd H (by simp)
                  · rw [if_neg c28] at H
                    exact absurd H (by simp)
                · rw [if_neg c26] at H
                  exact absurd H (by simp)
              · rw [if_neg c25] at H
                exact absurd H (by simp)
          · rw [if_neg c6] at H
            have c6b0 : decide (x4_1 < (l0_1.length : Int)) = false := decide_eq_false c6
            clear c6
            by_cases c41 : x3_1.size + 1 ≤ 9223372036854775807
            · rw [if_pos c41] at H
              have c41b0 := eq_true c41
              (try (have c41n := c41; simp [size_lit] at c41n))
              (try (have c41m := eq_false (Nat.not_lt.2 c41); simp only [ByteArray.size_append, size_lit, List.length_cons, List.length_nil, Nat.reduceAdd, Nat.zero_add] at c41m))
              have c41b1 : decide (x3_1.size + 1 ≤ 9223372036854775807) = true := decide_eq_true c41
              try have c41b2 : (9223372036854775807 < x3_1.size + 1) = False := eq_false (Nat.not_lt.2 c41)
              obtain rfl := Option.some.inj H
              have hcz42_0 : wr.cell? ⟨gb203, 0, none⟩ = some (.string a0_0) := (blk_cell BK203.out 0).trans rfl
              have hcz42_1 : wr.cell? ⟨gb203, 1, none⟩ = some (.slice A0_1 l0_1.length c0_1) := (blk_cell BK203.out 1).trans rfl
              have hfz42_0 := blk_frozen BK203.out 0
              have hfz42_1 := blk_frozen BK203.out 1
              go_wp2
              go_ret
              exact ⟨by first | rfl | (simp [errW_none, errW_some] <;> rfl) | (simp [*, errW_none, errW_some] <;> rfl), by repeat (first | (with_reducible first | exact HB.out | apply below_alloc | apply pw_below_drewN | apply below_drew1 | refine below_set ?_ GE203.out) | exact HB.out)⟩
            · rw [if_neg c41] at H
              exact absurd H (by simp)
    · rw [if_neg c3] at H
      exact absurd H (by simp)
  · rw [if_neg c2] at H
    exact absurd H (by simp)

end Go.Proofs.YtmeopdjdjmjngaaGreatDoor.A
