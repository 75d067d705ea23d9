/- PRINTED BY A PROGRAM OF THIS SESSION (px.py, over the kit's print): Lean functions with the answers of Go functions of the given program, and proofs that the Go code comes to these answers; each under the conditions that its theorem states. -/
import Derived.Test.YtmeopdjdjmjngaaGreatDoorF0
import Derived.Test.YtmeopdjdjmjngaaGreatDoorF1
import Derived.Test.YtmeopdjdjmjngaaGreatDoorF4
import Derived.Test.YtmeopdjdjmjngaaGreatDoorF7
namespace Go.Proofs.YtmeopdjdjmjngaaGreatDoor.F
open Go.RowKit Go.Proofs.YtmeopdjdjmjngaaGreatDoorW.PrintWords Go.Proofs.YtmeopdjdjmjngaaGreatDoorW.PrintLast Go.Proofs.YtmeopdjdjmjngaaGreatDoorW.PrintMore
attribute [local go_sem] max2_int min2_int max_two min_two max_three min_three max_four min_four   -- for this text's walks alone
set_option linter.unusedVariables false
set_option linter.unusedSimpArgs false

attribute [local go_sem high] eqA41
theorem zF8_0 {P : Prop} (h : P := by repeat (first | (with_reducible first | exact HB.out | apply below_alloc | apply pw_below_drewN | apply below_drew1) | exact HB.out)) : P := h
theorem zF8_1 {P : Prop} (h : P := by (with_reducible repeat (first | refine blk_drewN ?_ _ | refine blk_drew ?_ | refine blk_alloc ?_ _)); exact BK261.out) : P := h
theorem zF8_2 {P : Prop} (h : P := by (try simp only [List.map_toArray, List.map_cons, List.map_nil]); first | done | rfl | (simp only [List.length_drop, List.length_take]; rfl)) : P := h
theorem zF8_3 {P : Prop} (h : P := by repeat (first | (with_reducible first | exact HB.out | apply below_alloc | apply pw_below_drewN | apply below_drew1 | refine below_set ?_ GE261.out | refine below_set ?_ GE263.out) | exact HB.out)) : P := h
theorem zF8_4 {P : Prop} (h : P := by repeat (first | (with_reducible first | exact HB.out | apply below_alloc | apply pw_below_drewN | apply below_drew1 | refine below_set ?_ GE261.out) | exact HB.out)) : P := h
theorem zF8_5 {P : Prop} (h : P := by repeat (first | (with_reducible first | exact HB.out | apply below_alloc | apply pw_below_drewN | apply below_drew1 | refine below_set ?_ GE1.out | refine below_set ?_ GE3.out) | exact HB.out)) : P := h
theorem zF8_6 {P : Prop} (h : P := by repeat (first | (with_reducible first | exact HB.out | apply below_alloc | apply pw_below_drewN | apply below_drew1 | refine below_set ?_ GE275.out) | exact HB.out)) : P := h
theorem zF8_7 {P : Prop} (h : P := by repeat (first | (with_reducible first | exact HB.out | apply below_alloc | apply pw_below_drewN | apply below_drew1 | refine below_set ?_ GE287.out) | exact HB.out)) : P := h
theorem zF8_8 {P : Prop} (h : P := by (with_reducible repeat (first | apply Kd.R_alloc | apply Kd.R_drewN | apply Kd.R_drew)); exact HO_3.out) : P := h
theorem zF8_9 {P : Prop} (h : P := by first | (with_reducible assumption) | assumption) : P := h
theorem zF8_10 {P : Prop} (h : P := by kernel_rfl) : P := h
theorem zF8_11 {P : Prop} (h : P := by (with_reducible repeat (first | refine blk_drewN ?_ _ | refine blk_drew ?_ | refine blk_alloc ?_ _)); exact BK263.out) : P := h
theorem zF8_12 {P : Prop} (h : P := by (with_reducible repeat (first | refine blk_drewN ?_ _ | refine blk_drew ?_ | refine blk_alloc ?_ _)); exact BK287.out) : P := h
theorem zF8_13 {P : Prop} (h : P := by repeat (first | (with_reducible first | exact HB.out | apply below_alloc | apply pw_below_drewN | apply below_drew1 | refine below_set ?_ GE1.out) | exact HB.out)) : P := h
theorem zF8_14 {P : Prop} (h : P := by (with_reducible repeat (first | apply Kd.R_alloc | apply Kd.R_drewN | apply Kd.R_drew)); exact HO274.out) : P := h
theorem zF8_15 {P : Prop} (h : P := by (with_reducible repeat (first | apply Kd.R_alloc | apply Kd.R_drewN | apply Kd.R_drew)); exact HO278.out) : P := h
theorem zF8_16 {P : Prop} (h : P := by (with_reducible repeat (first | apply Kd.R_alloc | apply Kd.R_drewN | apply Kd.R_drew)); exact HO290.out) : P := h
theorem zF8_17 {P : Prop} (h : P := by repeat (first | exact HB.out | apply below_alloc | apply pw_below_drewN | apply below_drew1 | refine below_set ?_ GE261.out | refine below_set ?_ GE263.out)) : P := h
theorem zF8_18 {P : Prop} (h : P := by first | rfl | (simp; done) | (simp [*]; done)) : P := h
theorem zF8_19 {P : Prop} (h : P := by (with_reducible repeat (first | refine blk_drewN ?_ _ | refine blk_drew ?_ | refine blk_alloc ?_ _)); exact BK275.out) : P := h
theorem zF8_20 {P : Prop} (h : P := by (with_reducible repeat (first | refine blk_drewN ?_ _ | refine blk_drew ?_ | refine blk_alloc ?_ _)); exact BK1.out) : P := h
theorem zF8_21 {P : Prop} (h : P := by simp) : P := h
theorem zF8_22 {P : Prop} (h : P := by rw [hg]; exact Nat.ne_of_lt (blk_lt (g := gb261) (o := .cells #[.string a0_0, .slice (some ad262) l0_1.length c0_1] 24 (0, 0)) zF8_1)) : P := h
theorem zF8_23 {P : Prop} (h : P := by rw [hg]; exact Nat.ne_of_gt (blk_lt (g := gb261) (o := .cells #[.string a0_0, .slice (some ad262) l0_1.length c0_1] 24 (0, 0)) zF8_1)) : P := h
theorem zF8_24 {P : Prop} (h : P := by rw [hg]; exact (below_size zF8_0)) : P := h
theorem zF8_25 {P : Prop} (h : P := by rw [hg]; exact (below_size zF8_4)) : P := h
/-! ### num_FormatInt: function 47, by hand -/
def num_FormatInt.f (a0 : Int) : Option (ByteArray) := if -9223372036854775808 ≤ a0 then (if a0 ≤ 9223372036854775807 then some ⟨(Lib.itoa a0).toArray⟩ else none) else none
set_option maxHeartbeats 8000000 in
set_option maxRecDepth 100000 in
theorem num_FormatInt.calls (a0 : Int) (r : ByteArray) (w : World) (h : num_FormatInt.f a0 = some r) (hG : Gl w) :
  Calls Tryz.prog 47 #[.int .i64 a0] w fun e w' => e = .returned (.string r) ∧ Below w.heap.size w w' := by
 unfold num_FormatInt.f at h
 by_cases h1 : -9223372036854775808 ≤ a0
 ·rw [if_pos h1] at h
  by_cases h2 : a0 ≤ 9223372036854775807
  ·rw [if_pos h2] at h
   obtain rfl := Option.some.inj h
   have HT := Aside0.mk hG.pow
   clear hG
   go_enter Tryz.func47, Tryz.ntmps47
   go_wp2_with ((with_reducible refine gate_callee (f := 93) rfl ?_); refine goesL_ _ rfl rfl Tryz.func93 zF8_10 rfl #[.int .i64 a0, .int .i64 10] rfl zF8_2 ?_; (with_reducible refine (Tryz.strconv_FormatInt_10 a0 h1 h2 _ HT.out).mono ?_); rintro e w' ⟨rfl, k, os, rfl⟩; refine ⟨_, rfl, ?_⟩)
   go_ret
   exact ⟨rfl, Lib.below_grow _ _ (Nat.le_refl _) _ _⟩
  ·rw [if_neg h2] at h; exact absurd h zF8_21
 ·rw [if_neg h1] at h; exact absurd h zF8_21


/-! ### schema_TypeName: function 14, by hand -/
def schema_TypeName.f (a0_0 a0_1 : Int) : Option (ByteArray) := if a0_0 < 1 then some (⟨#[63]⟩ : ByteArray) else if 5 < a0_0 then some (⟨#[63]⟩ : ByteArray) else if a0_0 = 3 then ((num_FormatInt.f a0_1).bind fun s => if s.size ≤ 1000000 then some (((⟨#[68, 69, 67, 73, 77, 65, 76, 40]⟩ : ByteArray) ++ s) ++ (⟨#[41]⟩ : ByteArray)) else none) else if a0_0 = 1 then some (⟨#[66, 79, 79, 76]⟩ : ByteArray) else if a0_0 = 2 then some (⟨#[73, 78, 84]⟩ : ByteArray) else if a0_0 = 4 then some (⟨#[84, 69, 88, 84]⟩ : ByteArray) else some (⟨#[68, 65, 84, 69]⟩ : ByteArray)
set_option maxHeartbeats 8000000 in
set_option maxRecDepth 100000 in
theorem schema_TypeName.calls (a0_0 a0_1 : Int) (r : ByteArray) (w : World) (h : schema_TypeName.f a0_0 a0_1 = some r) (hG : Gl w) :
  Calls Tryz.prog 14 #[.agg #[.int .i64 a0_0, .int .i64 a0_1]] w fun e w' => e = .returned (.string r) ∧ Below w.heap.size w w' := by
 have HB := Aside0.mk (Below.refl w.heap.size w)
 have HG := Aside0.mk hG
 have HF := Aside0.mk h
 clear h hG
 go_enter Tryz.func14, Tryz.ntmps14
 go_upto_block 0 with (first | ((with_reducible refine gate_dst (N := 1) rfl ?_); refine box_event ?hg (N := 1) ?hd (cs := #[.int .i64 a0_0, .int .i64 a0_1]) (t := 34) ?hr ?_; (case hd => rfl); (case hg => rfl); (case hr => first | (go_simp; done) | (go_simp; rfl)); intro gb1 hg w1 hbox hb; have n0_ := Aside0.mk (below_step zF8_0 hb); have n1_ := Aside0.mk (hbox); have n2_ := Aside0.mk ((zF8_24 : w.heap.size ≤ gb1)); clear HB; have HB := n0_; have BK1 := n1_; have GE1 := n2_; clear n0_ n1_ n2_; clear hb hbox hg) | ((with_reducible refine gate_dst (N := 3) rfl ?_); refine box_event ?hg (N := 3) ?hd (cs := #[.string (⟨#[]⟩ : ByteArray), .string (⟨#[]⟩ : ByteArray), .string (⟨#[]⟩ : ByteArray), .string (⟨#[]⟩ : ByteArray), .string (⟨#[]⟩ : ByteArray), .string (⟨#[]⟩ : ByteArray)]) (t := 73) ?hr ?_; (case hd => rfl); (case hg => rfl); (case hr => rfl); intro gb3 hg w3 hbox hb; have n0_ := Aside0.mk (blk_below (g := gb1) (o := .cells #[.int .i64 a0_0, .int .i64 a0_1] 34 (0, 0)) zF8_20 hb); have n1_ := Aside0.mk (below_step zF8_13 hb); have n2_ := Aside0.mk (hbox); have n3_ := Aside0.mk ((by rw [hg]; exact (below_size zF8_13) : w.heap.size ≤ gb3)); have n4_ := Aside0.mk ((by rw [hg]; exact Nat.ne_of_lt (blk_lt (g := gb1) (o := .cells #[.int .i64 a0_0, .int .i64 a0_1] 34 (0, 0)) zF8_20) : gb1 ≠ gb3)); clear BK1; clear HB; have BK1 := n0_; have HB := n1_; have BK3 := n2_; have GE3 := n3_; have NB := n4_; clear n0_ n1_ n2_ n3_ n4_; clear hb hbox hg; have hz0 : w3.cell? ⟨gb3, 0, none⟩ = some (.string (⟨#[]⟩ : ByteArray)) := (blk_cell BK3.out 0).trans rfl; have hy0 := blk_frozen BK3.out 0; have hz1 : w3.cell? ⟨gb3, 1, none⟩ = some (.string (⟨#[]⟩ : ByteArray)) := (blk_cell BK3.out 1).trans rfl; have hy1 := blk_frozen BK3.out 1; have hz2 : w3.cell? ⟨gb3, 2, none⟩ = some (.string (⟨#[]⟩ : ByteArray)) := (blk_cell BK3.out 2).trans rfl; have hy2 := blk_frozen BK3.out 2; have hz3 : w3.cell? ⟨gb3, 3, none⟩ = some (.string (⟨#[]⟩ : ByteArray)) := (blk_cell BK3.out 3).trans rfl; have hy3 := blk_frozen BK3.out 3; have hz4 : w3.cell? ⟨gb3, 4, none⟩ = some (.string (⟨#[]⟩ : ByteArray)) := (blk_cell BK3.out 4).trans rfl; have hy4 := blk_frozen BK3.out 4; have hz5 : w3.cell? ⟨gb3, 5, none⟩ = some (.string (⟨#[]⟩ : ByteArray)) := (blk_cell BK3.out 5).trans rfl; have hy5 := blk_frozen BK3.out 5))
 (try simp only [Act.put, List.setIfInBounds_toArray, List.set_cons_zero, List.set_cons_succ])
 have n1_ := Aside0.mk ((blk_put (cs' := #[.string (⟨#[]⟩ : ByteArray), .string (⟨#[66, 79, 79, 76]⟩ : ByteArray), .string (⟨#[73, 78, 84]⟩ : ByteArray), .string (⟨#[68, 69, 67, 73, 77, 65, 76, 40]⟩ : ByteArray), .string (⟨#[84, 69, 88, 84]⟩ : ByteArray), .string (⟨#[68, 65, 84, 69]⟩ : ByteArray)]) (blk_put (cs' := #[.string (⟨#[]⟩ : ByteArray), .string (⟨#[66, 79, 79, 76]⟩ : ByteArray), .string (⟨#[73, 78, 84]⟩ : ByteArray), .string (⟨#[68, 69, 67, 73, 77, 65, 76, 40]⟩ : ByteArray), .string (⟨#[84, 69, 88, 84]⟩ : ByteArray), .string (⟨#[]⟩ : ByteArray)]) (blk_put (cs' := #[.string (⟨#[]⟩ : ByteArray), .string (⟨#[66, 79, 79, 76]⟩ : ByteArray), .string (⟨#[73, 78, 84]⟩ : ByteArray), .string (⟨#[68, 69, 67, 73, 77, 65, 76, 40]⟩ : ByteArray), .string (⟨#[]⟩ : ByteArray), .string (⟨#[]⟩ : ByteArray)]) (blk_put (cs' := #[.string (⟨#[]⟩ : ByteArray), .string (⟨#[66, 79, 79, 76]⟩ : ByteArray), .string (⟨#[73, 78, 84]⟩ : ByteArray), .string (⟨#[]⟩ : ByteArray), .string (⟨#[]⟩ : ByteArray), .string (⟨#[]⟩ : ByteArray)]) (blk_put (cs' := #[.string (⟨#[]⟩ : ByteArray), .string (⟨#[66, 79, 79, 76]⟩ : ByteArray), .string (⟨#[]⟩ : ByteArray), .string (⟨#[]⟩ : ByteArray), .string (⟨#[]⟩ : ByteArray), .string (⟨#[]⟩ : ByteArray)]) (blk_put (cs' := #[.string (⟨#[]⟩ : ByteArray), .string (⟨#[]⟩ : ByteArray), .string (⟨#[]⟩ : ByteArray), .string (⟨#[]⟩ : ByteArray), .string (⟨#[]⟩ : ByteArray), .string (⟨#[]⟩ : ByteArray)]) BK3.out 0 (.string (⟨#[]⟩ : ByteArray)) rfl) 1 (.string (⟨#[66, 79, 79, 76]⟩ : ByteArray)) rfl) 2 (.string (⟨#[73, 78, 84]⟩ : ByteArray)) rfl) 3 (.string (⟨#[68, 69, 67, 73, 77, 65, 76, 40]⟩ : ByteArray)) rfl) 4 (.string (⟨#[84, 69, 88, 84]⟩ : ByteArray)) rfl) 5 (.string (⟨#[68, 65, 84, 69]⟩ : ByteArray)) rfl))
 have n2_ := Aside0.mk ((blk_far (blk_far (blk_far (blk_far (blk_far (blk_far BK1.out (p := ⟨gb3, 0, none⟩) NB.out (.string (⟨#[]⟩ : ByteArray))) (p := ⟨gb3, 1, none⟩) NB.out (.string (⟨#[66, 79, 79, 76]⟩ : ByteArray))) (p := ⟨gb3, 2, none⟩) NB.out (.string (⟨#[73, 78, 84]⟩ : ByteArray))) (p := ⟨gb3, 3, none⟩) NB.out (.string (⟨#[68, 69, 67, 73, 77, 65, 76, 40]⟩ : ByteArray))) (p := ⟨gb3, 4, none⟩) NB.out (.string (⟨#[84, 69, 88, 84]⟩ : ByteArray))) (p := ⟨gb3, 5, none⟩) NB.out (.string (⟨#[68, 65, 84, 69]⟩ : ByteArray))))
 have n3_ := Aside0.mk ((below_set (j := 5) (v := .string (⟨#[68, 65, 84, 69]⟩ : ByteArray)) (below_set (j := 4) (v := .string (⟨#[84, 69, 88, 84]⟩ : ByteArray)) (below_set (j := 3) (v := .string (⟨#[68, 69, 67, 73, 77, 65, 76, 40]⟩ : ByteArray)) (below_set (j := 2) (v := .string (⟨#[73, 78, 84]⟩ : ByteArray)) (below_set (j := 1) (v := .string (⟨#[66, 79, 79, 76]⟩ : ByteArray)) (below_set (j := 0) (v := .string (⟨#[]⟩ : ByteArray)) HB.out GE3.out) GE3.out) GE3.out) GE3.out) GE3.out) GE3.out))
 clear BK1 BK3 HB hz0 hz1 hz2 hz3 hz4 hz5 hy0 hy1 hy2 hy3 hy4 hy5
 have BK3 := n1_
 have BK1 := n2_
 have HB := n3_
 clear n1_ n2_ n3_
 generalize ((((((w3.setCell ⟨gb3, 0, none⟩ (.string (⟨#[]⟩ : ByteArray))).setCell ⟨gb3, 1, none⟩ (.string (⟨#[66, 79, 79, 76]⟩ : ByteArray))).setCell ⟨gb3, 2, none⟩ (.string (⟨#[73, 78, 84]⟩ : ByteArray))).setCell ⟨gb3, 3, none⟩ (.string (⟨#[68, 69, 67, 73, 77, 65, 76, 40]⟩ : ByteArray))).setCell ⟨gb3, 4, none⟩ (.string (⟨#[84, 69, 88, 84]⟩ : ByteArray))).setCell ⟨gb3, 5, none⟩ (.string (⟨#[68, 65, 84, 69]⟩ : ByteArray))) = w5 at BK1 BK3 HB ⊢
 have hc0 : w5.cell? ⟨gb1, 0, none⟩ = some (.int .i64 a0_0) := (blk_cell BK1.out 0).trans rfl
 have hc1 : w5.cell? ⟨gb1, 1, none⟩ = some (.int .i64 a0_1) := (blk_cell BK1.out 1).trans rfl
 have hd0 : w5.cell? ⟨gb3, 0, none⟩ = some (.string (⟨#[]⟩ : ByteArray)) := (blk_cell BK3.out 0).trans rfl
 have hd1 : w5.cell? ⟨gb3, 1, none⟩ = some (.string (⟨#[66, 79, 79, 76]⟩ : ByteArray)) := (blk_cell BK3.out 1).trans rfl
 have hd2 : w5.cell? ⟨gb3, 2, none⟩ = some (.string (⟨#[73, 78, 84]⟩ : ByteArray)) := (blk_cell BK3.out 2).trans rfl
 have hd3 : w5.cell? ⟨gb3, 3, none⟩ = some (.string (⟨#[68, 69, 67, 73, 77, 65, 76, 40]⟩ : ByteArray)) := (blk_cell BK3.out 3).trans rfl
 have hd4 : w5.cell? ⟨gb3, 4, none⟩ = some (.string (⟨#[84, 69, 88, 84]⟩ : ByteArray)) := (blk_cell BK3.out 4).trans rfl
 have hd5 : w5.cell? ⟨gb3, 5, none⟩ = some (.string (⟨#[68, 65, 84, 69]⟩ : ByteArray)) := (blk_cell BK3.out 5).trans rfl
 have h := HF.out
 clear HF
 unfold schema_TypeName.f at h
 by_cases c1 : a0_0 < 1
 ·rw [if_pos c1] at h
  obtain rfl := Option.some.inj h
  clear h
  have c1b : decide (a0_0 < 1) = true := decide_eq_true c1
  clear c1
  go_wp2
  go_ret
  exact ⟨rfl, zF8_5⟩
 have c1b : decide (a0_0 < 1) = false := decide_eq_false c1
 rw [if_neg c1] at h
 by_cases c5 : 5 < a0_0
 ·rw [if_pos c5] at h
  obtain rfl := Option.some.inj h
  clear h c1
  have c5b : decide (5 < a0_0) = true := decide_eq_true c5
  clear c5
  go_wp2
  go_ret
  exact ⟨rfl, zF8_5⟩
 have c5b : decide (5 < a0_0) = false := decide_eq_false c5
 rw [if_neg c5] at h
 by_cases c3 : a0_0 = 3
 ·rw [if_pos c3] at h
  subst c3
  clear c1 c5 c1b c5b
  cases hf : num_FormatInt.f a0_1 with
  | none => rw [hf] at h; exact absurd h zF8_21
  | some s =>
  rw [hf, Option.bind_some] at h
  have AF := Aside0.mk hf
  clear hf
  by_cases hs : s.size ≤ 1000000
  case neg => rw [if_neg hs] at h; exact absurd h zF8_21
  rw [if_pos hs] at h
  obtain rfl := Option.some.inj h
  clear h
  go_upto_region 5 with (fail)
  (try simp only [Act.put, List.setIfInBounds_toArray, List.set_cons_zero, List.set_cons_succ])
  have hsz : (⟨#[68, 69, 67, 73, 77, 65, 76, 40]⟩ : ByteArray).size = 8 := rfl
  have hs8 : 8 + s.size ≤ 9223372036854775807 := by omega
  have hs8a : (9223372036854775807 < 8 + s.size) = False := eq_false (by omega)
  have hs8b : (9223372036854775807 < (⟨#[68, 69, 67, 73, 77, 65, 76, 40]⟩ : ByteArray).size + s.size) = False := eq_false (by rw [hsz]; omega)
  have hs8c : (9223372036854775807 < 8 + s.size + 1) = False := eq_false (by omega)
  have hs8d : (9223372036854775807 < ((⟨#[68, 69, 67, 73, 77, 65, 76, 40]⟩ : ByteArray) ++ s).size + 1) = False := eq_false (by rw [ByteArray.size_append, hsz]; omega)
  have hs9 : ((⟨#[68, 69, 67, 73, 77, 65, 76, 40]⟩ : ByteArray) ++ s).size + 1 ≤ 9223372036854775807 := by rw [ByteArray.size_append, hsz]; omega
  have HB2 := HB.out
  have hl1 := World.block_lt_of_cell? _ _ hc1
  have hl3 := World.block_lt_of_cell? _ _ hd3
  go_region_held3 (fun w' => w'.cell? ⟨gb1, 1, none⟩ = some (.int .i64 a0_1) ∧ w'.cell? ⟨gb3, 3, none⟩ = some (.string (⟨#[68, 69, 67, 73, 77, 65, 76, 40]⟩ : ByteArray)) ∧ Below w.heap.size w w') (first | exact ⟨hc1, hd3, below_drew1 HB2⟩ | exact ⟨(hb6.cell (p := ⟨gb1, 1, none⟩) hl1).trans hc1, (hb6.cell (p := ⟨gb3, 3, none⟩) hl3).trans hd3, below_step (below_drew1 HB2) hb6⟩ | go_keep) (first | (go_at_call 47; refine (num_FormatInt.calls a0_1 s _ AF.out (Gl.of HG.out (below_drew1 HB2))).mono ?_; rintro e w6 ⟨rfl, hb6⟩))
  have n1_ := Aside0.mk (below_step (below_drew1 HB2) hb6)
  clear HB HB2
  have HB := n1_
  go_wp2
  go_ret
  exact ⟨rfl, HB.out⟩
 rw [if_neg c3] at h
 have c3b : (a0_0 == 3) = false := beq_eq_false_iff_ne.mpr c3
 by_cases d1 : a0_0 = 1
 ·rw [if_pos d1] at h
  obtain rfl := Option.some.inj h
  subst d1
  clear h c1 c5 c3 c1b c5b c3b
  go_wp2
  go_ret
  exact ⟨rfl, zF8_5⟩
 rw [if_neg d1] at h
 by_cases d2 : a0_0 = 2
 ·rw [if_pos d2] at h
  obtain rfl := Option.some.inj h
  subst d2
  clear h c1 c5 c3 c1b c5b c3b
  go_wp2
  go_ret
  exact ⟨rfl, zF8_5⟩
 rw [if_neg d2] at h
 by_cases d4 : a0_0 = 4
 ·rw [if_pos d4] at h
  obtain rfl := Option.some.inj h
  subst d4
  clear h c1 c5 c3 c1b c5b c3b
  go_wp2
  go_ret
  exact ⟨rfl, zF8_5⟩
 rw [if_neg d4] at h
 obtain rfl := Option.some.inj h
 obtain rfl : a0_0 = 5 := by omega
 clear h c1 c5 c3 c1b c5b c3b d1 d2 d4
 go_wp2
 go_ret
 exact ⟨rfl, zF8_5⟩


/-! ### strings_Join: function 49, by hand -/
def strings_Join.f (l0 : List ByteArray) (a1 : ByteArray) : Option (ByteArray) := if l0.length ≤ 140737488355328 ∧ (Lib.join (l0.map (·.data.toList)) a1.data.toList).length ≤ 140737488355328 then some ⟨(Lib.join (l0.map (·.data.toList)) a1.data.toList).toArray⟩ else none
theorem strings_Join.calls (A0 : Option Addr) (c0 : Nat) (l0 : List ByteArray) (a1 : ByteArray) (r : ByteArray) (w : World) (hr0 : Kd.C Kd.string w A0 l0.length l0) (hc0 : l0.length ≤ c0) (h : strings_Join.f l0 a1 = some r) :
  Calls Tryz.prog 49 #[.slice A0 l0.length c0, .string a1] w fun e w' => e = .returned (.string r) ∧ Below w.heap.size w w' := by
 unfold strings_Join.f at h
 by_cases h1 : l0.length ≤ 140737488355328 ∧ (Lib.join (l0.map (·.data.toList)) a1.data.toList).length ≤ 140737488355328
 ·rw [if_pos h1] at h
  obtain rfl := Option.some.inj h
  have hat : ∀ j : Nat, j < l0.length → ∃ ad, A0 = some ad ∧ w.cell? (ad.add j) = some (.string (l0.getD j ⟨#[]⟩)) := by
   intro j hj
   obtain ⟨ad, c, e, hl, hK, hc⟩ := Kd.C_get hr0 (⟨#[]⟩ : ByteArray) (j : Int) (by omega) (by omega)
   refine ⟨ad, e, ?_⟩
   have hK' : c = [.string (l0.getD j ⟨#[]⟩)] := hK
   have := hc 0 (.string (l0.getD j ⟨#[]⟩)) (by rw [hK']; rfl)
   simpa [Kd.string, Kd.scalar] using this
  cases hl : l0 with
  | nil =>
   subst hl
   refine (Tryz.strings_Join_none A0 c0 a1 w).mono ?_
   rintro e w' ⟨rfl, rfl⟩
   exact ⟨rfl, Below.refl _ _⟩
  | cons x xs =>
   rw [← hl]
   obtain ⟨ad, rfl, h0⟩ := hat 0 (by rw [hl]; simp)
   obtain ⟨bk, o, sp⟩ := ad
   have h0' : w.cell? ⟨bk, o, sp⟩ = some (.string (l0.getD 0 ⟨#[]⟩)) := by simpa [Addr.add] using h0
   have hsp : sp = none := by
    unfold World.cell? at h0'
    cases ho : w.heap[bk]? with
    | none => simp [ho] at h0'
    | some ob =>
     cases ob <;> simp [ho] at h0'
     cases sp with
     | none => rfl
     | some q => simp at h0'
   subst hsp
   have hb : bk < w.heap.size := by
    unfold World.cell? at h0'
    cases ho : w.heap[bk]? with
    | none => simp [ho] at h0'
    | some ob => exact (Array.getElem?_eq_some_iff.1 ho).1
   refine Tryz.strings_Join bk o c0 l0 a1 w ?_ hb h1.1 hc0 h1.2
   intro j x hj
   have hlt : j < l0.length := (List.getElem?_eq_some_iff.1 hj).1
   obtain ⟨ad', e', h'⟩ := hat j hlt
   obtain rfl := Option.some.inj e'
   rw [List.getD_eq_getElem?_getD, hj] at h'
   by_cases hz : j = 0
   ·subst hz; simpa [Addr.add] using h'
   ·simpa [Addr.add, hz] using h'
 ·rw [if_neg h1] at h; exact absurd h zF8_21


/-! ### schema_Show: function 16 -/
def schema_Show.l0 : Nat → List ByteArray → List (S36) → Int → Int → ByteArray → List (S36) → Option (ByteArray)
 | 0, _, _, _, _, _, _ => none
 | k + 1, x3, x8, x9, x10, x262000, x262001 => if x10 < x9 then (if 0 ≤ x10 then (if x10 < (x8.length : Int) then (if ((rd_T36 x8 x10).f0).size + 1 ≤ 9223372036854775807 then ((schema_TypeName.f ((rd_T36 x8 x10).f1.f0) ((rd_T36 x8 x10).f1.f1)).bind fun t264 => (if (((rd_T36 x8 x10).f0) ++ (⟨#[32]⟩ : ByteArray)).size + t264.size ≤ 9223372036854775807 then (if (rd_T36 x8 x10).f2 = true then (if ((((rd_T36 x8 x10).f0) ++ (⟨#[32]⟩ : ByteArray)) ++ t264).size + 9 ≤ 9223372036854775807 then (if x3.length < 8796093022208 then (schema_Show.l0 k (x3 ++ [((((rd_T36 x8 x10).f0) ++ (⟨#[32]⟩ : ByteArray)) ++ t264) ++ (⟨#[32, 78, 79, 84, 32, 78, 85, 76, 76]⟩ : ByteArray)]) x8 x9 (wrap64 (x10 + 1)) x262000 x262001) else (none)) else (none)) else (if x3.length < 8796093022208 then (schema_Show.l0 k (x3 ++ [(((rd_T36 x8 x10).f0) ++ (⟨#[32]⟩ : ByteArray)) ++ t264]) x8 x9 (wrap64 (x10 + 1)) x262000 x262001) else (none))) else (none))) else (none)) else (none)) else (none)) else (if 13 + x262000.size ≤ 9223372036854775807 then (if ((⟨#[67, 82, 69, 65, 84, 69, 32, 84, 65, 66, 76, 69, 32]⟩ : ByteArray) ++ x262000).size + 2 ≤ 9223372036854775807 then ((strings_Join.f x3 (⟨#[44, 32]⟩ : ByteArray)).bind fun t271 => (if (((⟨#[67, 82, 69, 65, 84, 69, 32, 84, 65, 66, 76, 69, 32]⟩ : ByteArray) ++ x262000) ++ (⟨#[32, 40]⟩ : ByteArray)).size + t271.size ≤ 9223372036854775807 then (if ((((⟨#[67, 82, 69, 65, 84, 69, 32, 84, 65, 66, 76, 69, 32]⟩ : ByteArray) ++ x262000) ++ (⟨#[32, 40]⟩ : ByteArray)) ++ t271).size + 1 ≤ 9223372036854775807 then (some (((((⟨#[67, 82, 69, 65, 84, 69, 32, 84, 65, 66, 76, 69, 32]⟩ : ByteArray) ++ x262000) ++ (⟨#[32, 40]⟩ : ByteArray)) ++ t271) ++ (⟨#[41]⟩ : ByteArray))) else (none)) else (none))) else (none)) else (none))
def schema_Show.f (k : Nat) (a0_0 : ByteArray) (l0_1 : List (S36)) : Option (ByteArray) := schema_Show.l0 k ([] : List ByteArray) l0_1 (l0_1.length : Int) 0 a0_0 l0_1
theorem schema_Show.mono_l : ∀ k, (∀ y0 y1 y2 y3 y4 y5, LeO (schema_Show.l0 k y0 y1 y2 y3 y4 y5) (schema_Show.l0 (k + 1) y0 y1 y2 y3 y4 y5))
 | 0 => fun _ _ _ _ _ _ r h => by simp [schema_Show.l0] at h
 | k + 1 => by
  have ih0 := schema_Show.mono_l k
  ·intro y0 y1 y2 y3 y4 y5
   unfold schema_Show.l0
   repeat' first
   | (with_reducible exact ih0 _ _ _ _ _ _)
   | (with_reducible exact LeO.refl _)
   | (with_reducible exact LeO.none _)
   | (with_reducible refine LeO.ite ?_ ?_)
   | (with_reducible refine LeO.bind ?_ (fun _ => ?_))
   | exact ih0 _ _ _ _ _ _
   | exact LeO.none _
   | refine LeO.ite ?_ ?_
   | refine LeO.bind ?_ (fun _ => ?_)
theorem schema_Show.mono : ∀ a0 a1 k, LeO (schema_Show.f k a0 a1) (schema_Show.f (k + 1) a0 a1) := by
 intro a0 a1 k
 have ih0 := schema_Show.mono_l k
 unfold schema_Show.f
 repeat' first
   | (with_reducible exact ih0 _ _ _ _ _ _)
   | (with_reducible exact LeO.refl _)
   | (with_reducible exact LeO.none _)
   | (with_reducible refine LeO.ite ?_ ?_)
   | (with_reducible refine LeO.bind ?_ (fun _ => ?_))
   | exact ih0 _ _ _ _ _ _
   | exact LeO.none _
   | refine LeO.ite ?_ ?_
   | refine LeO.bind ?_ (fun _ => ?_)
def schema_Show.T5 : Bool × List (List Nat × List Nat) := (true, [([], []), ([0], [0]), ([1], [1]), ([], []), ([3], [3]), ([4], [4]), ([2, 5], [2, 5]), ([6, 5, 0, 1, 2, 3, 4, 5, 6], [6])])
def schema_Show.B5 : List Nat := [0, 1, 3, 0, 8, 24, 63, 127]
theorem schema_Show.tab5 : rtab .any (opsOf Tryz.f16 5) = schema_Show.T5 := by kernel_rfl
theorem schema_Show.bits5 : waitsOk schema_Show.T5.2 schema_Show.B5 = true := by kernel_rfl
def schema_Show.T10 : Bool × List (List Nat × List Nat) := (true, [([], []), ([0], [0]), ([1], [1]), ([2], [2]), ([], []), ([4], [4]), ([3, 5], [3, 5]), ([6], [6]), ([7, 5, 0, 1, 2, 3, 4, 5, 6, 7], [7])])
def schema_Show.B10 : List Nat := [0, 1, 3, 7, 0, 16, 63, 127, 255]
theorem schema_Show.tab10 : rtab .any (opsOf Tryz.f16 10) = schema_Show.T10 := by kernel_rfl
theorem schema_Show.bits10 : waitsOk schema_Show.T10.2 schema_Show.B10 = true := by kernel_rfl
set_option maxHeartbeats 8000000 in
set_option maxRecDepth 100000 in
theorem schema_Show.calls (k : Nat) (a0_0 : ByteArray) (A0_1 : Option Addr) (c0_1 : Nat) (l0_1 : List (S36)) (r : ByteArray) (w : World) (hr0_1 : Kd.C k36 w A0_1 l0_1.length l0_1) (hc0_1 : l0_1.length ≤ c0_1) (h : schema_Show.f k a0_0 l0_1 = some r) (hG : Gl w) :
  Calls Tryz.prog 16 #[.agg #[.string a0_0, .slice A0_1 l0_1.length c0_1]] w fun e w' => e = .returned (.string r) ∧ Below w.heap.size w w' := by
 have HG := Aside0.mk hG
 clear hG
 have hu24 := Tryz.underlying24
 have hu36 := Tryz.underlying36
 have hu34 := Tryz.underlying34
 have HR0_1 := Aside0.mk hr0_1
 have HC0_1 := Aside0.mk hc0_1
 clear hr0_1 hc0_1
 have HB := Aside0.mk (Below.refl w.heap.size w)
 have H : (schema_Show.l0 k ([] : List ByteArray) l0_1 (l0_1.length : Int) 0 a0_0 l0_1) = some r := h
 clear h
 have H' := Aside0.mk H
 clear H
 go_enter Tryz.func16, Tryz.ntmps16
 go_wp2_with (first | ((with_reducible refine gate_dst (N := 1) rfl ?_); refine box_event ?hg (N := 1) ?hd (cs := #[.string a0_0, .slice A0_1 l0_1.length c0_1]) (t := 24) ?hr ?_; (case hd => rfl); (case hg => rfl); (case hr => first | (go_simp; done) | (go_simp; rfl)); intro gb261 hg w2 hbox hb; have n0_ := Aside0.mk (below_step zF8_0 hb); have n1_ := Aside0.mk (hbox); have n2_ := Aside0.mk ((zF8_24 : w.heap.size ≤ gb261)); have n3_ := Aside0.mk ((zF8_24 : w.heap.size ≤ gb261)); clear HB; have HB := n0_; have BK261 := n1_; have GW261 := n2_; have GE261 := n3_; clear n0_ n1_ n2_ n3_; clear hb hbox hg; have hcz3_0 : w2.cell? ⟨gb261, 0, none⟩ = some (.string a0_0) := (blk_cell BK261.out 0).trans rfl; have hcz3_1 : w2.cell? ⟨gb261, 1, none⟩ = some (.slice A0_1 l0_1.length c0_1) := (blk_cell BK261.out 1).trans rfl; have hfz3_0 := blk_frozen BK261.out 0; have hfz3_1 := blk_frozen BK261.out 1))
 go_loopg [3, 10] k (fun kq v3 v10 w' => ∃ (x3_1 : List ByteArray) (x10_1 : Int), v10 = .int .i64 x10_1 ∧ Aside0 (schema_Show.l0 kq x3_1 l0_1 (l0_1.length : Int) x10_1 a0_0 l0_1 = some r) ∧ Aside0 (kq ≤ k) ∧ Aside0 (Kd.R Kd.string 9 w' w.heap.size (fun _ => True) v3 x3_1) ∧ Aside0 (w'.heap[gb261]? = some (.cells #[.string a0_0, (.slice A0_1 l0_1.length c0_1)] 24 (0, 0))) ∧ Aside0 (Below w.heap.size w w'))
 case atStart => exact ⟨(([] : List ByteArray)), (0), zF8_18, H', ⟨Nat.le_refl _⟩, ⟨by first | exact Kd.R_nil _ _ _ _ _ | exact Kd.N_nil _ _ _ _ _ | exact Kd.V_nil _ _ _ _ _ | exact Kd.Q_nil _ _ _ _ _ | exact Kd.S_nil _ _ _ _ _⟩, ⟨by (with_reducible repeat (first | refine blk_drewN ?_ _ | refine blk_drew ?_ | refine blk_alloc ?_ _)); exact BK261.out⟩, ⟨by repeat (first | (with_reducible first | exact HB.out | apply below_alloc | apply pw_below_drewN | apply below_drew1 | refine below_set ?_ GE261.out) | exact HB.out)⟩⟩
 case round =>
  clear H'
  (try clear hcz3_0); (try clear hcz3_1); (try clear hfz3_0); (try clear hfz3_1)
  obtain ⟨x3_1, x10_1, rfl, HA, HK1, HO_3, BK261, HB⟩ := hrel
  cases gk with
  | zero => exact absurd HA.out (by simp [schema_Show.l0])
  | succ k1 =>
   have H := HA.out
   clear HA
   simp only [schema_Show.l0] at H
   by_cases c4 : x10_1 < (l0_1.length : Int)
   ·rw [if_pos c4] at H
    have c4b0 : decide (x10_1 < (l0_1.length : Int)) = true := decide_eq_true c4
    clear c4
    by_cases c5 : 0 ≤ x10_1
    ·rw [if_pos c5] at H
     have c5b0 : decide (0 ≤ x10_1) = true := decide_eq_true c5
     clear c5
     by_cases c6 : x10_1 < (l0_1.length : Int)
     ·rw [if_pos c6] at H
      have c6b0 : decide (x10_1 < (l0_1.length : Int)) = true := decide_eq_true c6
      clear c6
      by_cases c7 : ((rd_T36 l0_1 x10_1).f0).size + 1 ≤ 9223372036854775807
      ·rw [if_pos c7] at H
       have c7b0 := eq_true c7
       (try (have c7n := c7; simp [size_lit] at c7n))
       (try (have c7m := eq_false (Nat.not_lt.2 c7); simp only [ByteArray.size_append, size_lit, List.length_cons, List.length_nil, Nat.reduceAdd, Nat.zero_add] at c7m))
       have c7b1 : decide (((rd_T36 l0_1 x10_1).f0).size + 1 ≤ 9223372036854775807) = true := decide_eq_true c7
       try have c7b2 : (9223372036854775807 < ((rd_T36 l0_1 x10_1).f0).size + 1) = False := eq_false (Nat.not_lt.2 c7)
       replace H := Option.bind_eq_some_iff.mp H
       obtain ⟨t264, A80, H⟩ := H
       replace H : (if (((rd_T36 l0_1 x10_1).f0) ++ (⟨#[32]⟩ : ByteArray)).size + t264.size ≤ 9223372036854775807 then (if (rd_T36 l0_1 x10_1).f2 = true then (if ((((rd_T36 l0_1 x10_1).f0) ++ (⟨#[32]⟩ : ByteArray)) ++ t264).size + 9 ≤ 9223372036854775807 then (if x3_1.length < 8796093022208 then (schema_Show.l0 k1 (x3_1 ++ [((((rd_T36 l0_1 x10_1).f0) ++ (⟨#[32]⟩ : ByteArray)) ++ t264) ++ (⟨#[32, 78, 79, 84, 32, 78, 85, 76, 76]⟩ : ByteArray)]) l0_1 (l0_1.length : Int) (wrap64 (x10_1 + 1)) a0_0 l0_1) else (none)) else (none)) else (if x3_1.length < 8796093022208 then (schema_Show.l0 k1 (x3_1 ++ [(((rd_T36 l0_1 x10_1).f0) ++ (⟨#[32]⟩ : ByteArray)) ++ t264]) l0_1 (l0_1.length : Int) (wrap64 (x10_1 + 1)) a0_0 l0_1) else (none))) else (none)) = some r := H
       have A8 := Aside0.mk A80
       clear A80
       by_cases c9 : (((rd_T36 l0_1 x10_1).f0) ++ (⟨#[32]⟩ : ByteArray)).size + t264.size ≤ 9223372036854775807
       ·rw [if_pos c9] at H
        have c9b0 := eq_true c9
        (try (have c9n := c9; simp [size_lit] at c9n))
        (try (have c9m := eq_false (Nat.not_lt.2 c9); simp only [ByteArray.size_append, size_lit, List.length_cons, List.length_nil, Nat.reduceAdd, Nat.zero_add] at c9m))
        have c9b1 : decide ((((rd_T36 l0_1 x10_1).f0) ++ (⟨#[32]⟩ : ByteArray)).size + t264.size ≤ 9223372036854775807) = true := decide_eq_true c9
        try have c9b2 : (9223372036854775807 < (((rd_T36 l0_1 x10_1).f0) ++ (⟨#[32]⟩ : ByteArray)).size + t264.size) = False := eq_false (Nat.not_lt.2 c9)
        obtain ⟨bq10, hbq10⟩ : ∃ b_ : Bool, b_ = ((rd_T36 l0_1 x10_1).f2) := ⟨_, rfl⟩
        replace H : (if bq10 = true then (if ((((rd_T36 l0_1 x10_1).f0) ++ (⟨#[32]⟩ : ByteArray)) ++ t264).size + 9 ≤ 9223372036854775807 then (if x3_1.length < 8796093022208 then (schema_Show.l0 k1 (x3_1 ++ [((((rd_T36 l0_1 x10_1).f0) ++ (⟨#[32]⟩ : ByteArray)) ++ t264) ++ (⟨#[32, 78, 79, 84, 32, 78, 85, 76, 76]⟩ : ByteArray)]) l0_1 (l0_1.length : Int) (wrap64 (x10_1 + 1)) a0_0 l0_1) else (none)) else (none)) else (if x3_1.length < 8796093022208 then (schema_Show.l0 k1 (x3_1 ++ [(((rd_T36 l0_1 x10_1).f0) ++ (⟨#[32]⟩ : ByteArray)) ++ t264]) l0_1 (l0_1.length : Int) (wrap64 (x10_1 + 1)) a0_0 l0_1) else (none))) = some r := by rw [← hbq10] at H; exact H
        have Nbq10 := Aside0.mk hbq10
        clear hbq10
        by_cases c11 : bq10 = true
        ·subst c11
         have H1 : (if ((((rd_T36 l0_1 x10_1).f0) ++ (⟨#[32]⟩ : ByteArray)) ++ t264).size + 9 ≤ 9223372036854775807 then (if x3_1.length < 8796093022208 then (schema_Show.l0 k1 (x3_1 ++ [((((rd_T36 l0_1 x10_1).f0) ++ (⟨#[32]⟩ : ByteArray)) ++ t264) ++ (⟨#[32, 78, 79, 84, 32, 78, 85, 76, 76]⟩ : ByteArray)]) l0_1 (l0_1.length : Int) (wrap64 (x10_1 + 1)) a0_0 l0_1) else (none)) else (none)) = some r := by rw [if_pos rfl] at H; exact H
         clear H
         have H := H1
         clear H1
         by_cases c12 : ((((rd_T36 l0_1 x10_1).f0) ++ (⟨#[32]⟩ : ByteArray)) ++ t264).size + 9 ≤ 9223372036854775807
         ·rw [if_pos c12] at H
          have c12b0 := eq_true c12
          (try (have c12n := c12; simp [size_lit] at c12n))
          (try (have c12m := eq_false (Nat.not_lt.2 c12); simp only [ByteArray.size_append, size_lit, List.length_cons, List.length_nil, Nat.reduceAdd, Nat.zero_add] at c12m))
          have c12b1 : decide (((((rd_T36 l0_1 x10_1).f0) ++ (⟨#[32]⟩ : ByteArray)) ++ t264).size + 9 ≤ 9223372036854775807) = true := decide_eq_true c12
          try have c12b2 : (9223372036854775807 < ((((rd_T36 l0_1 x10_1).f0) ++ (⟨#[32]⟩ : ByteArray)) ++ t264).size + 9) = False := eq_false (Nat.not_lt.2 c12)
          by_cases c13 : x3_1.length < 8796093022208
          ·rw [if_pos c13] at H
           have LMc13 := Aside0.mk c13
           clear c13
           obtain ⟨y265, hy265⟩ : ∃ y_ : List ByteArray, y_ = (x3_1 ++ [((((rd_T36 l0_1 x10_1).f0) ++ (⟨#[32]⟩ : ByteArray)) ++ t264) ++ (⟨#[32, 78, 79, 84, 32, 78, 85, 76, 76]⟩ : ByteArray)]) := ⟨_, rfl⟩
           replace H : (schema_Show.l0 k1 y265 l0_1 (l0_1.length : Int) (wrap64 (x10_1 + 1)) a0_0 l0_1) = some r := by first | (rw [hy265]; with_reducible exact H) | (have H2_ := (Option.bind_some _ _).symm.trans H; rw [hy265]; with_reducible exact H2_) | (have H2_ := (Option.bind_some _ _).symm.trans H; with_reducible exact H2_) | with_reducible exact H | (rw [hy265]; exact H) | exact H
           have Ny265 := Aside0.mk hy265
           clear hy265
           have H' := Aside0.mk H
           clear H
           have p262 : 0 ≤ (x10_1 : Int) := of_decide_eq_true zF8_9
           have q262 : x10_1 < (l0_1.length : Int) := of_decide_eq_true zF8_9
           obtain ⟨ad262, e262, hx262_0, hx262_1, hx262_2, hx262_3⟩ := at_T36 HR0_1.out x10_1 p262 q262
           (try rw [← Nbq10.out] at hx262_3)
           cases e262
           replace hx262_0 := (HB.out.cell (World.block_lt_of_cell? w _ hx262_0)).trans hx262_0
           replace hx262_1 := (HB.out.cell (World.block_lt_of_cell? w _ hx262_1)).trans hx262_1
           replace hx262_2 := (HB.out.cell (World.block_lt_of_cell? w _ hx262_2)).trans hx262_2
           replace hx262_3 := (HB.out.cell (World.block_lt_of_cell? w _ hx262_3)).trans hx262_3
           replace p262 := eq_true p262
           replace q262 := eq_true q262
           try go_wp2_with (first | ((with_reducible refine gate_dst (N := 5) rfl ?_); refine box_event ?hg (N := 5) ?hd (cs := #[.string (⟨#[]⟩ : ByteArray), .int .i64 0, .int .i64 0, .bool false]) (t := 36) ?hr ?_; (case hd => rfl); (case hg => rfl); (case hr => first | (go_simp; done) | (go_simp; rfl)); intro gb263 hg w14 hbox hb; have n0_ := Aside0.mk (Kd.R_below zF8_8 hb); have n1_ := Aside0.mk (blk_below (g := gb261) (o := .cells #[.string a0_0, .slice (some ad262) l0_1.length c0_1] 24 (0, 0)) zF8_1 hb); have n2_ := Aside0.mk (below_step zF8_4 hb); have n3_ := Aside0.mk (hbox); have n4_ := Aside0.mk ((zF8_25 : w.heap.size ≤ gb263)); have n5_ := Aside0.mk ((zF8_25 : w.heap.size ≤ gb263)); have n6_ := Aside0.mk ((zF8_22 : gb261 ≠ gb263)); have n7_ := Aside0.mk ((zF8_23 : gb263 ≠ gb261)); clear HO_3; clear BK261; clear HB; have HO_3 := n0_; have BK261 := n1_; have HB := n2_; have BK263 := n3_; have GW263 := n4_; have GE263 := n5_; have NB261_263 := n6_; have NB263_261 := n7_; clear n0_ n1_ n2_ n3_ n4_ n5_ n6_ n7_; clear hb hbox hg; have hnb15 := NB263_261.out; have hnc15 := NB261_263.out; have hcz16_0 : w14.cell? ⟨gb263, 0, none⟩ = some (.string (⟨#[]⟩ : ByteArray)) := (blk_cell BK263.out 0).trans rfl; have hcz16_1 : w14.cell? ⟨gb263, 1, none⟩ = some (.int .i64 0) := (blk_cell BK263.out 1).trans rfl; have hcz16_2 : w14.cell? ⟨gb263, 2, none⟩ = some (.int .i64 0) := (blk_cell BK263.out 2).trans rfl; have hcz16_3 : w14.cell? ⟨gb263, 3, none⟩ = some (.bool false) := (blk_cell BK263.out 3).trans rfl; have hfz16_0 := blk_frozen BK263.out 0; have hfz16_1 := blk_frozen BK263.out 1; have hfz16_2 := blk_frozen BK263.out 2; have hfz16_3 := blk_frozen BK263.out 3))
           have n0_ : Aside0 (Kd.R Kd.string 9 ((((w14.setCell ⟨gb263, 0, none⟩ (.string ((rd_T36 l0_1 x10_1).f0))).setCell ⟨gb263, 1, none⟩ (.int .i64 ((rd_T36 l0_1 x10_1).f1.f0))).setCell ⟨gb263, 2, none⟩ (.int .i64 ((rd_T36 l0_1 x10_1).f1.f1))).setCell ⟨gb263, 3, none⟩ (.bool true)) w.heap.size (fun _ => True) u3 x3_1) := ⟨by (with_reducible repeat (first | apply Kd.R_alloc | apply Kd.R_drewN | apply Kd.R_drew)); exact Kd.R_mono (Kd.R_far (p := ⟨gb263, 3, none⟩) (Kd.R_far (p := ⟨gb263, 2, none⟩) (Kd.R_far (p := ⟨gb263, 1, none⟩) (Kd.R_far (p := ⟨gb263, 0, none⟩) (Kd.R_types HO_3.out BK263.out (by decide)) (fun _ hk => hk.2) (.string ((rd_T36 l0_1 x10_1).f0))) (fun _ hk => hk.2) (.int .i64 ((rd_T36 l0_1 x10_1).f1.f0))) (fun _ hk => hk.2) (.int .i64 ((rd_T36 l0_1 x10_1).f1.f1))) (fun _ hk => hk.2) (.bool true)) (fun _ hk => trivial)⟩
           have n1_ : Aside0 (((((w14.setCell ⟨gb263, 0, none⟩ (.string ((rd_T36 l0_1 x10_1).f0))).setCell ⟨gb263, 1, none⟩ (.int .i64 ((rd_T36 l0_1 x10_1).f1.f0))).setCell ⟨gb263, 2, none⟩ (.int .i64 ((rd_T36 l0_1 x10_1).f1.f1))).setCell ⟨gb263, 3, none⟩ (.bool true)).heap[gb261]? = some (.cells #[.string a0_0, .slice (some ad262) l0_1.length c0_1] 24 (0, 0))) := ⟨by (with_reducible repeat (first | refine blk_drewN ?_ _ | refine blk_drew ?_ | refine blk_alloc ?_ _)); refine blk_far ?_ NB261_263.out _; (with_reducible repeat (first | refine blk_drewN ?_ _ | refine blk_drew ?_ | refine blk_alloc ?_ _)); refine blk_far ?_ NB261_263.out _; (with_reducible repeat (first | refine blk_drewN ?_ _ | refine blk_drew ?_ | refine blk_alloc ?_ _)); refine blk_far ?_ NB261_263.out _; (with_reducible repeat (first | refine blk_drewN ?_ _ | refine blk_drew ?_ | refine blk_alloc ?_ _)); refine blk_far ?_ NB261_263.out _; (with_reducible repeat (first | refine blk_drewN ?_ _ | refine blk_drew ?_ | refine blk_alloc ?_ _)); exact BK261.out⟩
           have n2_ : Aside0 (((((w14.setCell ⟨gb263, 0, none⟩ (.string ((rd_T36 l0_1 x10_1).f0))).setCell ⟨gb263, 1, none⟩ (.int .i64 ((rd_T36 l0_1 x10_1).f1.f0))).setCell ⟨gb263, 2, none⟩ (.int .i64 ((rd_T36 l0_1 x10_1).f1.f1))).setCell ⟨gb263, 3, none⟩ (.bool true)).heap[gb263]? = some (.cells #[.string ((rd_T36 l0_1 x10_1).f0), .int .i64 ((rd_T36 l0_1 x10_1).f1.f0), .int .i64 ((rd_T36 l0_1 x10_1).f1.f1), .bool true] 36 (0, 0))) := ⟨by (with_reducible repeat (first | refine blk_drewN ?_ _ | refine blk_drew ?_ | refine blk_alloc ?_ _)); refine blk_put (cs := #[.string ((rd_T36 l0_1 x10_1).f0), .int .i64 ((rd_T36 l0_1 x10_1).f1.f0), .int .i64 ((rd_T36 l0_1 x10_1).f1.f1), .bool false]) ?_ 3 _ rfl; (with_reducible repeat (first | refine blk_drewN ?_ _ | refine blk_drew ?_ | refine blk_alloc ?_ _)); refine blk_put (cs := #[.string ((rd_T36 l0_1 x10_1).f0), .int .i64 ((rd_T36 l0_1 x10_1).f1.f0), .int .i64 0, .bool false]) ?_ 2 _ rfl; (with_reducible repeat (first | refine blk_drewN ?_ _ | refine blk_drew ?_ | refine blk_alloc ?_ _)); refine blk_put (cs := #[.string ((rd_T36 l0_1 x10_1).f0), .int .i64 0, .int .i64 0, .bool false]) ?_ 1 _ rfl; (with_reducible repeat (first | refine blk_drewN ?_ _ | refine blk_drew ?_ | refine blk_alloc ?_ _)); refine blk_put (cs := #[.string (⟨#[]⟩ : ByteArray), .int .i64 0, .int .i64 0, .bool false]) ?_ 0 _ rfl; (with_reducible repeat (first | refine blk_drewN ?_ _ | refine blk_drew ?_ | refine blk_alloc ?_ _)); exact BK263.out⟩
           have n3_ : Aside0 (Below w.heap.size w ((((w14.setCell ⟨gb263, 0, none⟩ (.string ((rd_T36 l0_1 x10_1).f0))).setCell ⟨gb263, 1, none⟩ (.int .i64 ((rd_T36 l0_1 x10_1).f1.f0))).setCell ⟨gb263, 2, none⟩ (.int .i64 ((rd_T36 l0_1 x10_1).f1.f1))).setCell ⟨gb263, 3, none⟩ (.bool true))) := ⟨by repeat (first | (with_reducible first | exact HB.out | apply below_alloc | apply pw_below_drewN | apply below_drew1 | refine below_set ?_ GE261.out | refine below_set ?_ GE263.out) | exact HB.out)⟩
           (try clear HO_3)
           (try clear BK261)
           (try clear BK263)
           (try clear HB)
           generalize ((((w14.setCell ⟨gb263, 0, none⟩ (.string ((rd_T36 l0_1 x10_1).f0))).setCell ⟨gb263, 1, none⟩ (.int .i64 ((rd_T36 l0_1 x10_1).f1.f0))).setCell ⟨gb263, 2, none⟩ (.int .i64 ((rd_T36 l0_1 x10_1).f1.f1))).setCell ⟨gb263, 3, none⟩ (.bool true)) = w17 at n0_ n1_ n2_ n3_ ⊢
           have HO_3 := n0_
           have BK261 := n1_
           have BK263 := n2_
           have HB := n3_
           clear n0_ n1_ n2_ n3_
           have n0_ := Aside0.mk (Kd.R_drew HO_3.out)
           have n1_ := Aside0.mk (blk_drew BK261.out)
           have n2_ := Aside0.mk (blk_drew BK263.out)
           have n3_ := Aside0.mk (below_drew1 HB.out)
           clear HO_3
           clear BK261
           clear BK263
           clear HB
           have HO_3 := n0_
           have BK261 := n1_
           have BK263 := n2_
           have HB := n3_
           clear n0_ n1_ n2_ n3_
           refine start_ (n := 8) (S := fun w' => w'.cell? ⟨gb263, 0, none⟩ = some (.string ((rd_T36 l0_1 x10_1).f0)) ∧ w'.cell? ⟨gb263, 1, none⟩ = some (.int .i64 ((rd_T36 l0_1 x10_1).f1.f0)) ∧ w'.cell? ⟨gb263, 2, none⟩ = some (.int .i64 ((rd_T36 l0_1 x10_1).f1.f1)) ∧ w'.cell? ⟨gb263, 3, none⟩ = some (.bool true)) (ds := []) #[false, false, false, false, false, false, false, false] zF8_10 rfl rfl ⟨(blk_cell BK263.out 0).trans rfl, (blk_cell BK263.out 1).trans rfl, (blk_cell BK263.out 2).trans rfl, (blk_cell BK263.out 3).trans rfl⟩ (fun hHeld => ?_); refine with_tabW schema_Show.tab5 schema_Show.bits5 (fun HT_ HW_ => ?_)
           generalize w17.drew = w18 at HO_3 BK261 BK263 HB hHeld ⊢
           refine pure_ (i := 0) (N := some 14) (v := ?_) (a' := ?_) #[true, false, false, false, false, false, false, false] rfl rfl (any_of HT_.out zF8_10) (fun _ _ _ h => h) (Or.inl ⟨by rfl, ?_⟩) ?_ ?_
           rotate_left
           ·intro w'
            go_simp
            with_reducible rfl
           rotate_left
           ·simp only [Act.put, List.setIfInBounds_toArray, List.set_cons_zero, List.set_cons_succ, i64_w, i32_w]
            rfl
           refine pure_ (i := 3) (N := some 17) (v := ?_) (a' := ?_) #[true, false, false, true, false, false, false, false] rfl rfl (any_of HT_.out zF8_10) (fun _ _ _ h => h) (Or.inl ⟨by rfl, ?_⟩) ?_ ?_
           rotate_left
           ·intro w'
            go_simp
            with_reducible rfl
           rotate_left
           ·simp only [Act.put, List.setIfInBounds_toArray, List.set_cons_zero, List.set_cons_succ, i64_w, i32_w]
            rfl
           refine take_ (i := 1) (N := some 15) (v := ?_) (a' := ?_) #[true, true, false, true, false, false, false, false] rfl rfl (take_ofW HT_.out HW_.out zF8_10) (fun _ _ _ h => h) (Or.inl ⟨by rfl, ?_⟩) hHeld ?_ ?_
           rotate_left
           ·rintro w' ⟨s0, s1, s2, s3⟩
            go_simp
            with_reducible rfl
           rotate_left
           ·simp only [Act.put, List.setIfInBounds_toArray, List.set_cons_zero, List.set_cons_succ, i64_w, i32_w]
            rfl
           refine pure_ (i := 2) (N := some 16) (v := ?_) (a' := ?_) #[true, true, true, true, false, false, false, false] rfl rfl (any_of HT_.out zF8_10) (fun _ _ _ h => h) (Or.inl ⟨by rfl, ?_⟩) ?_ ?_
           rotate_left
           ·intro w'
            go_simp
            with_reducible rfl
           rotate_left
           ·simp only [Act.put, List.setIfInBounds_toArray, List.set_cons_zero, List.set_cons_succ, i64_w, i32_w]
            rfl
           refine take_ (i := 4) (N := some 18) (v := ?_) (a' := ?_) #[true, true, true, true, true, false, false, false] rfl rfl (take_ofW HT_.out HW_.out zF8_10) (fun _ _ _ h => h) (Or.inl ⟨by rfl, ?_⟩) hHeld ?_ ?_
           rotate_left
           ·rintro w' ⟨s0, s1, s2, s3⟩
            go_simp
            with_reducible rfl
           rotate_left
           ·simp only [Act.put, List.setIfInBounds_toArray, List.set_cons_zero, List.set_cons_succ, i64_w, i32_w]
            rfl
           refine one_ (i := 5) (N := some 19) #[true, true, true, true, true, true, false, false] rfl rfl (one_of HT_.out zF8_10) (by decide) (fun K hK => ?_)
           refine goes_ Tryz.func14 zF8_10 rfl #[.agg #[.int .i64 ((rd_T36 l0_1 x10_1).f1.f0), .int .i64 ((rd_T36 l0_1 x10_1).f1.f1)]] (by rfl) rfl rfl zF8_2 ?_
           with_reducible refine (schema_TypeName.calls ((rd_T36 l0_1 x10_1).f1.f0) ((rd_T36 l0_1 x10_1).f1.f1) t264 _ A8.out (Gl.of HG.out zF8_17)).mono ?_
           rintro e w19 ⟨rfl, hb⟩
           refine ⟨_, rfl, ?_⟩
           have n0_ := Aside0.mk (Kd.R_below zF8_8 hb)
           have n1_ := Aside0.mk (blk_below (g := gb261) (o := .cells #[.string a0_0, .slice (some ad262) l0_1.length c0_1] 24 (0, 0)) zF8_1 hb)
           have n2_ := Aside0.mk (blk_below (g := gb263) (o := .cells #[.string ((rd_T36 l0_1 x10_1).f0), .int .i64 ((rd_T36 l0_1 x10_1).f1.f0), .int .i64 ((rd_T36 l0_1 x10_1).f1.f1), .bool true] 36 (0, 0)) zF8_11 hb)
           have n3_ := Aside0.mk (below_step zF8_3 hb)
           clear HO_3
           clear BK261
           clear BK263
           clear HB
           have HO_3 := n0_
           have BK261 := n1_
           have BK263 := n2_
           have HB := n3_
           clear n0_ n1_ n2_ n3_
           (try clear hb)
           (try clear hb2)
           (try clear hk)
           (try clear hi)
           refine hK.out _ _ ⟨(blk_cell BK263.out 0).trans rfl, (blk_cell BK263.out 1).trans rfl, (blk_cell BK263.out 2).trans rfl, (blk_cell BK263.out 3).trans rfl⟩ (fun hHeld => ?_)
           clear hK K
           refine norm_ (a' := ?_) ?_ ?_
           rotate_left
           ·show Act.put _ (some 19) _ = _
            simp only [Act.put, List.setIfInBounds_toArray, List.set_cons_zero, List.set_cons_succ, i64_w, i32_w]
            rfl
           refine pure_ (i := 6) (N := some 20) (v := ?_) (a' := ?_) #[true, true, true, true, true, true, true, false] rfl rfl (any_of HT_.out zF8_10) (fun _ _ _ h => h) (Or.inl ⟨by rfl, ?_⟩) ?_ ?_
           rotate_left
           ·intro w'
            go_simp
            with_reducible rfl
           rotate_left
           ·simp only [Act.put, List.setIfInBounds_toArray, List.set_cons_zero, List.set_cons_succ, i64_w, i32_w]
            rfl
           refine pure_ (i := 7) (N := some 6) (v := ?_) (a' := ?_) #[true, true, true, true, true, true, true, true] rfl rfl (any_of HT_.out zF8_10) (fun _ _ _ h => h) (Or.inl ⟨by rfl, ?_⟩) ?_ ?_
           rotate_left
           ·intro w'
            go_simp
            with_reducible rfl
           rotate_left
           ·simp only [Act.put, List.setIfInBounds_toArray, List.set_cons_zero, List.set_cons_succ, i64_w, i32_w]
            rfl
           refine done_ (done_of HT_.out zF8_10) ?_
           have hcz20_0 : w19.cell? ⟨gb263, 0, none⟩ = some (.string ((rd_T36 l0_1 x10_1).f0)) := (blk_cell BK263.out 0).trans rfl
           have hcz20_1 : w19.cell? ⟨gb263, 1, none⟩ = some (.int .i64 ((rd_T36 l0_1 x10_1).f1.f0)) := (blk_cell BK263.out 1).trans rfl
           have hcz20_2 : w19.cell? ⟨gb263, 2, none⟩ = some (.int .i64 ((rd_T36 l0_1 x10_1).f1.f1)) := (blk_cell BK263.out 2).trans rfl
           have hcz20_3 : w19.cell? ⟨gb263, 3, none⟩ = some (.bool true) := (blk_cell BK263.out 3).trans rfl
           have hfz20_0 := blk_frozen BK263.out 0
           have hfz20_1 := blk_frozen BK263.out 1
           have hfz20_2 := blk_frozen BK263.out 2
           have hfz20_3 := blk_frozen BK263.out 3
           try go_wp2_with (first | ((with_reducible refine gate_builtin (b := .append) (xs := #[.tmp 25, .tmp 27]) rfl ?_); at_builtin; refine Kd.R_append Kd.string (w0 := w) w.heap.size rfl (.tmp 25) (.tmp 27) 75 9 (.string ⟨#[]⟩) 16 rfl Tryz.underlying75 info9 rfl (by decide) (by omega) u3 x3_1 (((((rd_T36 l0_1 x10_1).f0) ++ (⟨#[32]⟩ : ByteArray)) ++ t264) ++ (⟨#[32, 78, 79, 84, 32, 78, 85, 76, 76]⟩ : ByteArray)) [.string (((((rd_T36 l0_1 x10_1).f0) ++ (⟨#[32]⟩ : ByteArray)) ++ t264) ++ (⟨#[32, 78, 79, 84, 32, 78, 85, 76, 76]⟩ : ByteArray))] (fun _ => True) (fun _ => False) rfl rfl ?aP (fun _ hk => hk.elim) ?aF ?aO ?aB ?aS ?aL ?_; (case aP => exact rfl); (case aB => exact zF8_3); (case aF => exact (fun _ _ => trivial)); (case aO => exact zF8_8); (case aS => exact (below_size zF8_3)); (case aL => have := LMc13.out; omega); intro v266 w21 ho hb hg hat; rw [← Ny265.out] at ho; have n0_ := Aside0.mk (blk_grown (g := gb261) (o := .cells #[.string a0_0, .slice (some ad262) l0_1.length c0_1] 24 (0, 0)) zF8_1 hg (Kd.R_ne HO_3.out BK261.out (by decide))); have n1_ := Aside0.mk (blk_grown (g := gb263) (o := .cells #[.string ((rd_T36 l0_1 x10_1).f0), .int .i64 ((rd_T36 l0_1 x10_1).f1.f0), .int .i64 ((rd_T36 l0_1 x10_1).f1.f1), .bool true] 36 (0, 0)) zF8_11 hg (Kd.R_ne HO_3.out BK263.out (by decide))); have n2_ := Aside0.mk (hb); have n3_ := Aside0.mk (ho); clear BK261; clear BK263; clear HB; clear HO_3; have BK261 := n0_; have BK263 := n1_; have HB := n2_; have HO267 := n3_; clear n0_ n1_ n2_ n3_; clear ho hb hg hat))
           go_roundg k1
           case measure => have := HK1.out; omega
           case rel => exact ⟨(y265), (wrap64 (x10_1 + 1)), zF8_18, H', ⟨by have := HK1.out; omega⟩, ⟨by (with_reducible repeat (first | apply Kd.R_alloc | apply Kd.R_drewN | apply Kd.R_drew)); exact HO267.out⟩, ⟨by (with_reducible repeat (first | refine blk_drewN ?_ _ | refine blk_drew ?_ | refine blk_alloc ?_ _)); exact BK261.out⟩, ⟨by repeat (first | (with_reducible first | exact HB.out | apply below_alloc | apply pw_below_drewN | apply below_drew1 | refine below_set ?_ GE261.out | refine below_set ?_ GE263.out) | exact HB.out)⟩⟩
          ·rw [if_neg c13] at H
           exact absurd H zF8_21
         ·rw [if_neg c12] at H
          exact absurd H zF8_21
        ·replace c11 := Bool.eq_false_iff.mpr c11
         subst c11
         have H1 : (if x3_1.length < 8796093022208 then (schema_Show.l0 k1 (x3_1 ++ [(((rd_T36 l0_1 x10_1).f0) ++ (⟨#[32]⟩ : ByteArray)) ++ t264]) l0_1 (l0_1.length : Int) (wrap64 (x10_1 + 1)) a0_0 l0_1) else (none)) = some r := by rw [if_neg (show ¬ (false = true) by decide)] at H; exact H
         clear H
         have H := H1
         clear H1
         by_cases c22 : x3_1.length < 8796093022208
         ·rw [if_pos c22] at H
          have LMc22 := Aside0.mk c22
          clear c22
          obtain ⟨y268, hy268⟩ : ∃ y_ : List ByteArray, y_ = (x3_1 ++ [(((rd_T36 l0_1 x10_1).f0) ++ (⟨#[32]⟩ : ByteArray)) ++ t264]) := ⟨_, rfl⟩
          replace H : (schema_Show.l0 k1 y268 l0_1 (l0_1.length : Int) (wrap64 (x10_1 + 1)) a0_0 l0_1) = some r := by first | (rw [hy268]; with_reducible exact H) | (have H2_ := (Option.bind_some _ _).symm.trans H; rw [hy268]; with_reducible exact H2_) | (have H2_ := (Option.bind_some _ _).symm.trans H; with_reducible exact H2_) | with_reducible exact H | (rw [hy268]; exact H) | exact H
          have Ny268 := Aside0.mk hy268
          clear hy268
          have H' := Aside0.mk H
          clear H
          have p262 : 0 ≤ (x10_1 : Int) := of_decide_eq_true zF8_9
          have q262 : x10_1 < (l0_1.length : Int) := of_decide_eq_true zF8_9
          obtain ⟨ad262, e262, hx262_0, hx262_1, hx262_2, hx262_3⟩ := at_T36 HR0_1.out x10_1 p262 q262
          (try rw [← Nbq10.out] at hx262_3)
          cases e262
          replace hx262_0 := (HB.out.cell (World.block_lt_of_cell? w _ hx262_0)).trans hx262_0
          replace hx262_1 := (HB.out.cell (World.block_lt_of_cell? w _ hx262_1)).trans hx262_1
          replace hx262_2 := (HB.out.cell (World.block_lt_of_cell? w _ hx262_2)).trans hx262_2
          replace hx262_3 := (HB.out.cell (World.block_lt_of_cell? w _ hx262_3)).trans hx262_3
          replace p262 := eq_true p262
          replace q262 := eq_true q262
          try go_wp2_with (first | ((with_reducible refine gate_dst (N := 5) rfl ?_); refine box_event ?hg (N := 5) ?hd (cs := #[.string (⟨#[]⟩ : ByteArray), .int .i64 0, .int .i64 0, .bool false]) (t := 36) ?hr ?_; (case hd => rfl); (case hg => rfl); (case hr => first | (go_simp; done) | (go_simp; rfl)); intro gb263 hg w23 hbox hb; have n0_ := Aside0.mk (Kd.R_below zF8_8 hb); have n1_ := Aside0.mk (blk_below (g := gb261) (o := .cells #[.string a0_0, .slice (some ad262) l0_1.length c0_1] 24 (0, 0)) zF8_1 hb); have n2_ := Aside0.mk (below_step zF8_4 hb); have n3_ := Aside0.mk (hbox); have n4_ := Aside0.mk ((zF8_25 : w.heap.size ≤ gb263)); have n5_ := Aside0.mk ((zF8_25 : w.heap.size ≤ gb263)); have n6_ := Aside0.mk ((zF8_22 : gb261 ≠ gb263)); have n7_ := Aside0.mk ((zF8_23 : gb263 ≠ gb261)); clear HO_3; clear BK261; clear HB; have HO_3 := n0_; have BK261 := n1_; have HB := n2_; have BK263 := n3_; have GW263 := n4_; have GE263 := n5_; have NB261_263 := n6_; have NB263_261 := n7_; clear n0_ n1_ n2_ n3_ n4_ n5_ n6_ n7_; clear hb hbox hg; have hnb24 := NB263_261.out; have hnc24 := NB261_263.out; have hcz25_0 : w23.cell? ⟨gb263, 0, none⟩ = some (.string (⟨#[]⟩ : ByteArray)) := (blk_cell BK263.out 0).trans rfl; have hcz25_1 : w23.cell? ⟨gb263, 1, none⟩ = some (.int .i64 0) := (blk_cell BK263.out 1).trans rfl; have hcz25_2 : w23.cell? ⟨gb263, 2, none⟩ = some (.int .i64 0) := (blk_cell BK263.out 2).trans rfl; have hcz25_3 : w23.cell? ⟨gb263, 3, none⟩ = some (.bool false) := (blk_cell BK263.out 3).trans rfl; have hfz25_0 := blk_frozen BK263.out 0; have hfz25_1 := blk_frozen BK263.out 1; have hfz25_2 := blk_frozen BK263.out 2; have hfz25_3 := blk_frozen BK263.out 3))
          have n0_ : Aside0 (Kd.R Kd.string 9 ((((w23.setCell ⟨gb263, 0, none⟩ (.string ((rd_T36 l0_1 x10_1).f0))).setCell ⟨gb263, 1, none⟩ (.int .i64 ((rd_T36 l0_1 x10_1).f1.f0))).setCell ⟨gb263, 2, none⟩ (.int .i64 ((rd_T36 l0_1 x10_1).f1.f1))).setCell ⟨gb263, 3, none⟩ (.bool false)) w.heap.size (fun _ => True) u3 x3_1) := ⟨by (with_reducible repeat (first | apply Kd.R_alloc | apply Kd.R_drewN | apply Kd.R_drew)); exact Kd.R_mono (Kd.R_far (p := ⟨gb263, 3, none⟩) (Kd.R_far (p := ⟨gb263, 2, none⟩) (Kd.R_far (p := ⟨gb263, 1, none⟩) (Kd.R_far (p := ⟨gb263, 0, none⟩) (Kd.R_types HO_3.out BK263.out (by decide)) (fun _ hk => hk.2) (.string ((rd_T36 l0_1 x10_1).f0))) (fun _ hk => hk.2) (.int .i64 ((rd_T36 l0_1 x10_1).f1.f0))) (fun _ hk => hk.2) (.int .i64 ((rd_T36 l0_1 x10_1).f1.f1))) (fun _ hk => hk.2) (.bool false)) (fun _ hk => trivial)⟩
          have n1_ : Aside0 (((((w23.setCell ⟨gb263, 0, none⟩ (.string ((rd_T36 l0_1 x10_1).f0))).setCell ⟨gb263, 1, none⟩ (.int .i64 ((rd_T36 l0_1 x10_1).f1.f0))).setCell ⟨gb263, 2, none⟩ (.int .i64 ((rd_T36 l0_1 x10_1).f1.f1))).setCell ⟨gb263, 3, none⟩ (.bool false)).heap[gb261]? = some (.cells #[.string a0_0, .slice (some ad262) l0_1.length c0_1] 24 (0, 0))) := ⟨by (with_reducible repeat (first | refine blk_drewN ?_ _ | refine blk_drew ?_ | refine blk_alloc ?_ _)); refine blk_far ?_ NB261_263.out _; (with_reducible repeat (first | refine blk_drewN ?_ _ | refine blk_drew ?_ | refine blk_alloc ?_ _)); refine blk_far ?_ NB261_263.out _; (with_reducible repeat (first | refine blk_drewN ?_ _ | refine blk_drew ?_ | refine blk_alloc ?_ _)); refine blk_far ?_ NB261_263.out _; (with_reducible repeat (first | refine blk_drewN ?_ _ | refine blk_drew ?_ | refine blk_alloc ?_ _)); refine blk_far ?_ NB261_263.out _; (with_reducible repeat (first | refine blk_drewN ?_ _ | refine blk_drew ?_ | refine blk_alloc ?_ _)); exact BK261.out⟩
          have n2_ : Aside0 (((((w23.setCell ⟨gb263, 0, none⟩ (.string ((rd_T36 l0_1 x10_1).f0))).setCell ⟨gb263, 1, none⟩ (.int .i64 ((rd_T36 l0_1 x10_1).f1.f0))).setCell ⟨gb263, 2, none⟩ (.int .i64 ((rd_T36 l0_1 x10_1).f1.f1))).setCell ⟨gb263, 3, none⟩ (.bool false)).heap[gb263]? = some (.cells #[.string ((rd_T36 l0_1 x10_1).f0), .int .i64 ((rd_T36 l0_1 x10_1).f1.f0), .int .i64 ((rd_T36 l0_1 x10_1).f1.f1), .bool false] 36 (0, 0))) := ⟨by (with_reducible repeat (first | refine blk_drewN ?_ _ | refine blk_drew ?_ | refine blk_alloc ?_ _)); refine blk_put (cs := #[.string ((rd_T36 l0_1 x10_1).f0), .int .i64 ((rd_T36 l0_1 x10_1).f1.f0), .int .i64 ((rd_T36 l0_1 x10_1).f1.f1), .bool false]) ?_ 3 _ rfl; (with_reducible repeat (first | refine blk_drewN ?_ _ | refine blk_drew ?_ | refine blk_alloc ?_ _)); refine blk_put (cs := #[.string ((rd_T36 l0_1 x10_1).f0), .int .i64 ((rd_T36 l0_1 x10_1).f1.f0), .int .i64 0, .bool false]) ?_ 2 _ rfl; (with_reducible repeat (first | refine blk_drewN ?_ _ | refine blk_drew ?_ | refine blk_alloc ?_ _)); refine blk_put (cs := #[.string ((rd_T36 l0_1 x10_1).f0), .int .i64 0, .int .i64 0, .bool false]) ?_ 1 _ rfl; (with_reducible repeat (first | refine blk_drewN ?_ _ | refine blk_drew ?_ | refine blk_alloc ?_ _)); refine blk_put (cs := #[.string (⟨#[]⟩ : ByteArray), .int .i64 0, .int .i64 0, .bool false]) ?_ 0 _ rfl; (with_reducible repeat (first | refine blk_drewN ?_ _ | refine blk_drew ?_ | refine blk_alloc ?_ _)); exact BK263.out⟩
          have n3_ : Aside0 (Below w.heap.size w ((((w23.setCell ⟨gb263, 0, none⟩ (.string ((rd_T36 l0_1 x10_1).f0))).setCell ⟨gb263, 1, none⟩ (.int .i64 ((rd_T36 l0_1 x10_1).f1.f0))).setCell ⟨gb263, 2, none⟩ (.int .i64 ((rd_T36 l0_1 x10_1).f1.f1))).setCell ⟨gb263, 3, none⟩ (.bool false))) := ⟨by repeat (first | (with_reducible first | exact HB.out | apply below_alloc | apply pw_below_drewN | apply below_drew1 | refine below_set ?_ GE261.out | refine below_set ?_ GE263.out) | exact HB.out)⟩
          (try clear HO_3)
          (try clear BK261)
          (try clear BK263)
          (try clear HB)
          generalize ((((w23.setCell ⟨gb263, 0, none⟩ (.string ((rd_T36 l0_1 x10_1).f0))).setCell ⟨gb263, 1, none⟩ (.int .i64 ((rd_T36 l0_1 x10_1).f1.f0))).setCell ⟨gb263, 2, none⟩ (.int .i64 ((rd_T36 l0_1 x10_1).f1.f1))).setCell ⟨gb263, 3, none⟩ (.bool false)) = w26 at n0_ n1_ n2_ n3_ ⊢
          have HO_3 := n0_
          have BK261 := n1_
          have BK263 := n2_
          have HB := n3_
          clear n0_ n1_ n2_ n3_
          have n0_ := Aside0.mk (Kd.R_drew HO_3.out)
          have n1_ := Aside0.mk (blk_drew BK261.out)
          have n2_ := Aside0.mk (blk_drew BK263.out)
          have n3_ := Aside0.mk (below_drew1 HB.out)
          clear HO_3
          clear BK261
          clear BK263
          clear HB
          have HO_3 := n0_
          have BK261 := n1_
          have BK263 := n2_
          have HB := n3_
          clear n0_ n1_ n2_ n3_
          refine start_ (n := 8) (S := fun w' => w'.cell? ⟨gb263, 0, none⟩ = some (.string ((rd_T36 l0_1 x10_1).f0)) ∧ w'.cell? ⟨gb263, 1, none⟩ = some (.int .i64 ((rd_T36 l0_1 x10_1).f1.f0)) ∧ w'.cell? ⟨gb263, 2, none⟩ = some (.int .i64 ((rd_T36 l0_1 x10_1).f1.f1)) ∧ w'.cell? ⟨gb263, 3, none⟩ = some (.bool false)) (ds := []) #[false, false, false, false, false, false, false, false] zF8_10 rfl rfl ⟨(blk_cell BK263.out 0).trans rfl, (blk_cell BK263.out 1).trans rfl, (blk_cell BK263.out 2).trans rfl, (blk_cell BK263.out 3).trans rfl⟩ (fun hHeld => ?_); refine with_tabW schema_Show.tab5 schema_Show.bits5 (fun HT_ HW_ => ?_)
          generalize w26.drew = w27 at HO_3 BK261 BK263 HB hHeld ⊢
          refine pure_ (i := 0) (N := some 14) (v := ?_) (a' := ?_) #[true, false, false, false, false, false, false, false] rfl rfl (any_of HT_.out zF8_10) (fun _ _ _ h => h) (Or.inl ⟨by rfl, ?_⟩) ?_ ?_
          rotate_left
          ·intro w'
           go_simp
           with_reducible rfl
          rotate_left
          ·simp only [Act.put, List.setIfInBounds_toArray, List.set_cons_zero, List.set_cons_succ, i64_w, i32_w]
           rfl
          refine pure_ (i := 3) (N := some 17) (v := ?_) (a' := ?_) #[true, false, false, true, false, false, false, false] rfl rfl (any_of HT_.out zF8_10) (fun _ _ _ h => h) (Or.inl ⟨by rfl, ?_⟩) ?_ ?_
          rotate_left
          ·intro w'
           go_simp
           with_reducible rfl
          rotate_left
          ·simp only [Act.put, List.setIfInBounds_toArray, List.set_cons_zero, List.set_cons_succ, i64_w, i32_w]
           rfl
          refine take_ (i := 1) (N := some 15) (v := ?_) (a' := ?_) #[true, true, false, true, false, false, false, false] rfl rfl (take_ofW HT_.out HW_.out zF8_10) (fun _ _ _ h => h) (Or.inl ⟨by rfl, ?_⟩) hHeld ?_ ?_
          rotate_left
          ·rintro w' ⟨s0, s1, s2, s3⟩
           go_simp
           with_reducible rfl
          rotate_left
          ·simp only [Act.put, List.setIfInBounds_toArray, List.set_cons_zero, List.set_cons_succ, i64_w, i32_w]
           rfl
          refine pure_ (i := 2) (N := some 16) (v := ?_) (a' := ?_) #[true, true, true, true, false, false, false, false] rfl rfl (any_of HT_.out zF8_10) (fun _ _ _ h => h) (Or.inl ⟨by rfl, ?_⟩) ?_ ?_
          rotate_left
          ·intro w'
           go_simp
           with_reducible rfl
          rotate_left
          ·simp only [Act.put, List.setIfInBounds_toArray, List.set_cons_zero, List.set_cons_succ, i64_w, i32_w]
           rfl
          refine take_ (i := 4) (N := some 18) (v := ?_) (a' := ?_) #[true, true, true, true, true, false, false, false] rfl rfl (take_ofW HT_.out HW_.out zF8_10) (fun _ _ _ h => h) (Or.inl ⟨by rfl, ?_⟩) hHeld ?_ ?_
          rotate_left
          ·rintro w' ⟨s0, s1, s2, s3⟩
           go_simp
           with_reducible rfl
          rotate_left
          ·simp only [Act.put, List.setIfInBounds_toArray, List.set_cons_zero, List.set_cons_succ, i64_w, i32_w]
           rfl
          refine one_ (i := 5) (N := some 19) #[true, true, true, true, true, true, false, false] rfl rfl (one_of HT_.out zF8_10) (by decide) (fun K hK => ?_)
          refine goes_ Tryz.func14 zF8_10 rfl #[.agg #[.int .i64 ((rd_T36 l0_1 x10_1).f1.f0), .int .i64 ((rd_T36 l0_1 x10_1).f1.f1)]] (by rfl) rfl rfl zF8_2 ?_
          with_reducible refine (schema_TypeName.calls ((rd_T36 l0_1 x10_1).f1.f0) ((rd_T36 l0_1 x10_1).f1.f1) t264 _ A8.out (Gl.of HG.out zF8_17)).mono ?_
          rintro e w28 ⟨rfl, hb⟩
          refine ⟨_, rfl, ?_⟩
          have n0_ := Aside0.mk (Kd.R_below zF8_8 hb)
          have n1_ := Aside0.mk (blk_below (g := gb261) (o := .cells #[.string a0_0, .slice (some ad262) l0_1.length c0_1] 24 (0, 0)) zF8_1 hb)
          have n2_ := Aside0.mk (blk_below (g := gb263) (o := .cells #[.string ((rd_T36 l0_1 x10_1).f0), .int .i64 ((rd_T36 l0_1 x10_1).f1.f0), .int .i64 ((rd_T36 l0_1 x10_1).f1.f1), .bool false] 36 (0, 0)) zF8_11 hb)
          have n3_ := Aside0.mk (below_step zF8_3 hb)
          clear HO_3
          clear BK261
          clear BK263
          clear HB
          have HO_3 := n0_
          have BK261 := n1_
          have BK263 := n2_
          have HB := n3_
          clear n0_ n1_ n2_ n3_
          (try clear hb)
          (try clear hb2)
          (try clear hk)
          (try clear hi)
          refine hK.out _ _ ⟨(blk_cell BK263.out 0).trans rfl, (blk_cell BK263.out 1).trans rfl, (blk_cell BK263.out 2).trans rfl, (blk_cell BK263.out 3).trans rfl⟩ (fun hHeld => ?_)
          clear hK K
          refine norm_ (a' := ?_) ?_ ?_
          rotate_left
          ·show Act.put _ (some 19) _ = _
           simp only [Act.put, List.setIfInBounds_toArray, List.set_cons_zero, List.set_cons_succ, i64_w, i32_w]
           rfl
          refine pure_ (i := 6) (N := some 20) (v := ?_) (a' := ?_) #[true, true, true, true, true, true, true, false] rfl rfl (any_of HT_.out zF8_10) (fun _ _ _ h => h) (Or.inl ⟨by rfl, ?_⟩) ?_ ?_
          rotate_left
          ·intro w'
           go_simp
           with_reducible rfl
          rotate_left
          ·simp only [Act.put, List.setIfInBounds_toArray, List.set_cons_zero, List.set_cons_succ, i64_w, i32_w]
           rfl
          refine pure_ (i := 7) (N := some 6) (v := ?_) (a' := ?_) #[true, true, true, true, true, true, true, true] rfl rfl (any_of HT_.out zF8_10) (fun _ _ _ h => h) (Or.inl ⟨by rfl, ?_⟩) ?_ ?_
          rotate_left
          ·intro w'
           go_simp
           with_reducible rfl
          rotate_left
          ·simp only [Act.put, List.setIfInBounds_toArray, List.set_cons_zero, List.set_cons_succ, i64_w, i32_w]
           rfl
          refine done_ (done_of HT_.out zF8_10) ?_
          have hcz29_0 : w28.cell? ⟨gb263, 0, none⟩ = some (.string ((rd_T36 l0_1 x10_1).f0)) := (blk_cell BK263.out 0).trans rfl
          have hcz29_1 : w28.cell? ⟨gb263, 1, none⟩ = some (.int .i64 ((rd_T36 l0_1 x10_1).f1.f0)) := (blk_cell BK263.out 1).trans rfl
          have hcz29_2 : w28.cell? ⟨gb263, 2, none⟩ = some (.int .i64 ((rd_T36 l0_1 x10_1).f1.f1)) := (blk_cell BK263.out 2).trans rfl
          have hcz29_3 : w28.cell? ⟨gb263, 3, none⟩ = some (.bool false) := (blk_cell BK263.out 3).trans rfl
          have hfz29_0 := blk_frozen BK263.out 0
          have hfz29_1 := blk_frozen BK263.out 1
          have hfz29_2 := blk_frozen BK263.out 2
          have hfz29_3 := blk_frozen BK263.out 3
          try go_wp2_with (first | ((with_reducible refine gate_builtin (b := .append) (xs := #[.tmp 25, .tmp 27]) rfl ?_); at_builtin; refine Kd.R_append Kd.string (w0 := w) w.heap.size rfl (.tmp 25) (.tmp 27) 75 9 (.string ⟨#[]⟩) 16 rfl Tryz.underlying75 info9 rfl (by decide) (by omega) u3 x3_1 ((((rd_T36 l0_1 x10_1).f0) ++ (⟨#[32]⟩ : ByteArray)) ++ t264) [.string ((((rd_T36 l0_1 x10_1).f0) ++ (⟨#[32]⟩ : ByteArray)) ++ t264)] (fun _ => True) (fun _ => False) rfl rfl ?aP (fun _ hk => hk.elim) ?aF ?aO ?aB ?aS ?aL ?_; (case aP => exact rfl); (case aB => exact zF8_3); (case aF => exact (fun _ _ => trivial)); (case aO => exact zF8_8); (case aS => exact (below_size zF8_3)); (case aL => have := LMc22.out; omega); intro v269 w30 ho hb hg hat; rw [← Ny268.out] at ho; have n0_ := Aside0.mk (blk_grown (g := gb261) (o := .cells #[.string a0_0, .slice (some ad262) l0_1.length c0_1] 24 (0, 0)) zF8_1 hg (Kd.R_ne HO_3.out BK261.out (by decide))); have n1_ := Aside0.mk (blk_grown (g := gb263) (o := .cells #[.string ((rd_T36 l0_1 x10_1).f0), .int .i64 ((rd_T36 l0_1 x10_1).f1.f0), .int .i64 ((rd_T36 l0_1 x10_1).f1.f1), .bool false] 36 (0, 0)) zF8_11 hg (Kd.R_ne HO_3.out BK263.out (by decide))); have n2_ := Aside0.mk (hb); have n3_ := Aside0.mk (ho); clear BK261; clear BK263; clear HB; clear HO_3; have BK261 := n0_; have BK263 := n1_; have HB := n2_; have HO270 := n3_; clear n0_ n1_ n2_ n3_; clear ho hb hg hat))
          go_roundg k1
          case measure => have := HK1.out; omega
          case rel => exact ⟨(y268), (wrap64 (x10_1 + 1)), zF8_18, H', ⟨by have := HK1.out; omega⟩, ⟨by (with_reducible repeat (first | apply Kd.R_alloc | apply Kd.R_drewN | apply Kd.R_drew)); exact HO270.out⟩, ⟨by (with_reducible repeat (first | refine blk_drewN ?_ _ | refine blk_drew ?_ | refine blk_alloc ?_ _)); exact BK261.out⟩, ⟨by repeat (first | (with_reducible first | exact HB.out | apply below_alloc | apply pw_below_drewN | apply below_drew1 | refine below_set ?_ GE261.out | refine below_set ?_ GE263.out) | exact HB.out)⟩⟩
         ·rw [if_neg c22] at H
          exact absurd H zF8_21
       ·rw [if_neg c9] at H
        exact absurd H zF8_21
      ·rw [if_neg c7] at H
       exact absurd H zF8_21
     ·rw [if_neg c6] at H
      exact absurd H zF8_21
    ·rw [if_neg c5] at H
     exact absurd H zF8_21
   ·rw [if_neg c4] at H
    have c4b0 : decide (x10_1 < (l0_1.length : Int)) = false := decide_eq_false c4
    clear c4
    by_cases c31 : 13 + a0_0.size ≤ 9223372036854775807
    ·rw [if_pos c31] at H
     have c31b0 := eq_true c31
     (try (have c31n := c31; simp [size_lit] at c31n))
     (try (have c31m := eq_false (Nat.not_lt.2 c31); simp only [ByteArray.size_append, size_lit, List.length_cons, List.length_nil, Nat.reduceAdd, Nat.zero_add] at c31m))
     have c31b1 : decide (13 + a0_0.size ≤ 9223372036854775807) = true := decide_eq_true c31
     try have c31b2 : (9223372036854775807 < 13 + a0_0.size) = False := eq_false (Nat.not_lt.2 c31)
     by_cases c32 : ((⟨#[67, 82, 69, 65, 84, 69, 32, 84, 65, 66, 76, 69, 32]⟩ : ByteArray) ++ a0_0).size + 2 ≤ 9223372036854775807
     ·rw [if_pos c32] at H
      have c32b0 := eq_true c32
      (try (have c32n := c32; simp [size_lit] at c32n))
      (try (have c32m := eq_false (Nat.not_lt.2 c32); simp only [ByteArray.size_append, size_lit, List.length_cons, List.length_nil, Nat.reduceAdd, Nat.zero_add] at c32m))
      have c32b1 : decide (((⟨#[67, 82, 69, 65, 84, 69, 32, 84, 65, 66, 76, 69, 32]⟩ : ByteArray) ++ a0_0).size + 2 ≤ 9223372036854775807) = true := decide_eq_true c32
      try have c32b2 : (9223372036854775807 < ((⟨#[67, 82, 69, 65, 84, 69, 32, 84, 65, 66, 76, 69, 32]⟩ : ByteArray) ++ a0_0).size + 2) = False := eq_false (Nat.not_lt.2 c32)
      replace H := Option.bind_eq_some_iff.mp H
      obtain ⟨t271, A330, H⟩ := H
      replace H : (if (((⟨#[67, 82, 69, 65, 84, 69, 32, 84, 65, 66, 76, 69, 32]⟩ : ByteArray) ++ a0_0) ++ (⟨#[32, 40]⟩ : ByteArray)).size + t271.size ≤ 9223372036854775807 then (if ((((⟨#[67, 82, 69, 65, 84, 69, 32, 84, 65, 66, 76, 69, 32]⟩ : ByteArray) ++ a0_0) ++ (⟨#[32, 40]⟩ : ByteArray)) ++ t271).size + 1 ≤ 9223372036854775807 then (some (((((⟨#[67, 82, 69, 65, 84, 69, 32, 84, 65, 66, 76, 69, 32]⟩ : ByteArray) ++ a0_0) ++ (⟨#[32, 40]⟩ : ByteArray)) ++ t271) ++ (⟨#[41]⟩ : ByteArray))) else (none)) else (none)) = some r := H
      have A33 := Aside0.mk A330
      clear A330
      by_cases c34 : (((⟨#[67, 82, 69, 65, 84, 69, 32, 84, 65, 66, 76, 69, 32]⟩ : ByteArray) ++ a0_0) ++ (⟨#[32, 40]⟩ : ByteArray)).size + t271.size ≤ 9223372036854775807
      ·rw [if_pos c34] at H
       have c34b0 := eq_true c34
       (try (have c34n := c34; simp [size_lit] at c34n))
       (try (have c34m := eq_false (Nat.not_lt.2 c34); simp only [ByteArray.size_append, size_lit, List.length_cons, List.length_nil, Nat.reduceAdd, Nat.zero_add] at c34m))
       have c34b1 : decide ((((⟨#[67, 82, 69, 65, 84, 69, 32, 84, 65, 66, 76, 69, 32]⟩ : ByteArray) ++ a0_0) ++ (⟨#[32, 40]⟩ : ByteArray)).size + t271.size ≤ 9223372036854775807) = true := decide_eq_true c34
       try have c34b2 : (9223372036854775807 < (((⟨#[67, 82, 69, 65, 84, 69, 32, 84, 65, 66, 76, 69, 32]⟩ : ByteArray) ++ a0_0) ++ (⟨#[32, 40]⟩ : ByteArray)).size + t271.size) = False := eq_false (Nat.not_lt.2 c34)
       by_cases c35 : ((((⟨#[67, 82, 69, 65, 84, 69, 32, 84, 65, 66, 76, 69, 32]⟩ : ByteArray) ++ a0_0) ++ (⟨#[32, 40]⟩ : ByteArray)) ++ t271).size + 1 ≤ 9223372036854775807
       ·rw [if_pos c35] at H
        have c35b0 := eq_true c35
        (try (have c35n := c35; simp [size_lit] at c35n))
        (try (have c35m := eq_false (Nat.not_lt.2 c35); simp only [ByteArray.size_append, size_lit, List.length_cons, List.length_nil, Nat.reduceAdd, Nat.zero_add] at c35m))
        have c35b1 : decide (((((⟨#[67, 82, 69, 65, 84, 69, 32, 84, 65, 66, 76, 69, 32]⟩ : ByteArray) ++ a0_0) ++ (⟨#[32, 40]⟩ : ByteArray)) ++ t271).size + 1 ≤ 9223372036854775807) = true := decide_eq_true c35
        try have c35b2 : (9223372036854775807 < ((((⟨#[67, 82, 69, 65, 84, 69, 32, 84, 65, 66, 76, 69, 32]⟩ : ByteArray) ++ a0_0) ++ (⟨#[32, 40]⟩ : ByteArray)) ++ t271).size + 1) = False := eq_false (Nat.not_lt.2 c35)
        obtain rfl := Option.some.inj H
        try go_wp2
        have n0_ := Aside0.mk (Kd.R_drew HO_3.out)
        have n1_ := Aside0.mk (blk_drew BK261.out)
        have n2_ := Aside0.mk (below_drew1 HB.out)
        clear HO_3
        clear BK261
        clear HB
        have HO_3 := n0_
        have BK261 := n1_
        have HB := n2_
        clear n0_ n1_ n2_
        obtain ⟨Ao37, co37, eo37⟩ := Kd.R_slice HO_3.out
        (first | subst eo37 | (injection eo37 with f1_ f2_ f3_; have f4_ := f1_.symm; have f5_ := f3_.symm; clear f1_ f2_ f3_; subst f4_; subst f5_))
        refine start_ (n := 9) (S := fun w' => w'.cell? ⟨gb261, 0, none⟩ = some (.string a0_0) ∧ w'.cell? ⟨gb261, 1, none⟩ = some (.slice A0_1 l0_1.length c0_1)) (ds := []) #[false, false, false, false, false, false, false, false, false] zF8_10 rfl rfl ⟨(blk_cell BK261.out 0).trans rfl, (blk_cell BK261.out 1).trans rfl⟩ (fun hHeld => ?_); refine with_tabW schema_Show.tab10 schema_Show.bits10 (fun HT_ HW_ => ?_)
        generalize wr.drew = w36 at HO_3 BK261 HB hHeld ⊢
        refine pure_ (i := 0) (N := some 30) (v := ?_) (a' := ?_) #[true, false, false, false, false, false, false, false, false] rfl rfl (any_of HT_.out zF8_10) (fun _ _ _ h => h) (Or.inl ⟨by rfl, ?_⟩) ?_ ?_
        rotate_left
        ·intro w'
         go_simp
         with_reducible rfl
        rotate_left
        ·simp only [Act.put, List.setIfInBounds_toArray, List.set_cons_zero, List.set_cons_succ, i64_w, i32_w]
         rfl
        refine pure_ (i := 4) (N := some 34) (v := ?_) (a' := ?_) #[true, false, false, false, true, false, false, false, false] rfl rfl (any_of HT_.out zF8_10) (fun _ _ _ h => h) (Or.inl ⟨by rfl, ?_⟩) ?_ ?_
        rotate_left
        ·intro w'
         go_simp
         with_reducible rfl
        rotate_left
        ·simp only [Act.put, List.setIfInBounds_toArray, List.set_cons_zero, List.set_cons_succ, i64_w, i32_w]
         rfl
        refine take_ (i := 1) (N := some 31) (v := ?_) (a' := ?_) #[true, true, false, false, true, false, false, false, false] rfl rfl (take_ofW HT_.out HW_.out zF8_10) (fun _ _ _ h => h) (Or.inl ⟨by rfl, ?_⟩) hHeld ?_ ?_
        rotate_left
        ·rintro w' ⟨s0, s1⟩
         go_simp
         with_reducible rfl
        rotate_left
        ·simp only [Act.put, List.setIfInBounds_toArray, List.set_cons_zero, List.set_cons_succ, i64_w, i32_w]
         rfl
        refine pure_ (i := 2) (N := some 32) (v := ?_) (a' := ?_) #[true, true, true, false, true, false, false, false, false] rfl rfl (any_of HT_.out zF8_10) (fun _ _ _ h => h) (Or.inl ⟨by rfl, ?_⟩) ?_ ?_
        rotate_left
        ·intro w'
         go_simp
         with_reducible rfl
        rotate_left
        ·simp only [Act.put, List.setIfInBounds_toArray, List.set_cons_zero, List.set_cons_succ, i64_w, i32_w]
         rfl
        refine pure_ (i := 3) (N := some 33) (v := ?_) (a' := ?_) #[true, true, true, true, true, false, false, false, false] rfl rfl (any_of HT_.out zF8_10) (fun _ _ _ h => h) (Or.inl ⟨by rfl, ?_⟩) ?_ ?_
        rotate_left
        ·intro w'
         go_simp
         with_reducible rfl
        rotate_left
        ·simp only [Act.put, List.setIfInBounds_toArray, List.set_cons_zero, List.set_cons_succ, i64_w, i32_w]
         rfl
        refine one_ (i := 5) (N := some 35) #[true, true, true, true, true, true, false, false, false] rfl rfl (one_of HT_.out zF8_10) (by decide) (fun K hK => ?_)
        refine goes_ Tryz.func49 zF8_10 rfl #[.slice Ao37 x3_1.length co37, .string (⟨#[44, 32]⟩ : ByteArray)] (by rfl) rfl rfl zF8_2 ?_
        with_reducible refine (strings_Join.calls _ _ x3_1 (⟨#[44, 32]⟩ : ByteArray) t271 _ ?side1 ?side2 A33.out).mono ?_
        (case side1 => repeat (first | exact (Kd.R_reads' HO_3.out).2.2 | (with_reducible refine Kd.C_alloc ?_ _) | (with_reducible refine Kd.C_drewN ?_ _) | (with_reducible refine Kd.C_drew ?_)))
        (case side2 => exact (Kd.R_reads' HO_3.out).2.1)
        rintro e w38 ⟨rfl, hb⟩
        refine ⟨_, rfl, ?_⟩
        have n0_ := Aside0.mk (Kd.R_below zF8_8 hb)
        have n1_ := Aside0.mk (blk_below (g := gb261) (o := .cells #[.string a0_0, .slice A0_1 l0_1.length c0_1] 24 (0, 0)) zF8_1 hb)
        have n2_ := Aside0.mk (below_step zF8_4 hb)
        clear HO_3
        clear BK261
        clear HB
        have HO_3 := n0_
        have BK261 := n1_
        have HB := n2_
        clear n0_ n1_ n2_
        (try clear hb)
        (try clear hb2)
        (try clear hk)
        (try clear hi)
        refine hK.out _ _ ⟨(blk_cell BK261.out 0).trans rfl, (blk_cell BK261.out 1).trans rfl⟩ (fun hHeld => ?_)
        clear hK K
        refine norm_ (a' := ?_) ?_ ?_
        rotate_left
        ·show Act.put _ (some 35) _ = _
         simp only [Act.put, List.setIfInBounds_toArray, List.set_cons_zero, List.set_cons_succ, i64_w, i32_w]
         rfl
        refine pure_ (i := 6) (N := some 36) (v := ?_) (a' := ?_) #[true, true, true, true, true, true, true, false, false] rfl rfl (any_of HT_.out zF8_10) (fun _ _ _ h => h) (Or.inl ⟨by rfl, ?_⟩) ?_ ?_
        rotate_left
        ·intro w'
         go_simp
         with_reducible rfl
        rotate_left
        ·simp only [Act.put, List.setIfInBounds_toArray, List.set_cons_zero, List.set_cons_succ, i64_w, i32_w]
         rfl
        refine pure_ (i := 7) (N := some 37) (v := ?_) (a' := ?_) #[true, true, true, true, true, true, true, true, false] rfl rfl (any_of HT_.out zF8_10) (fun _ _ _ h => h) (Or.inl ⟨by rfl, ?_⟩) ?_ ?_
        rotate_left
        ·intro w'
         go_simp
         with_reducible rfl
        rotate_left
        ·simp only [Act.put, List.setIfInBounds_toArray, List.set_cons_zero, List.set_cons_succ, i64_w, i32_w]
         rfl
        refine pure_ (i := 8) (N := some 2) (v := ?_) (a' := ?_) #[true, true, true, true, true, true, true, true, true] rfl rfl (any_of HT_.out zF8_10) (fun _ _ _ h => h) (Or.inl ⟨by rfl, ?_⟩) ?_ ?_
        rotate_left
        ·intro w'
         go_simp
         with_reducible rfl
        rotate_left
        ·simp only [Act.put, List.setIfInBounds_toArray, List.set_cons_zero, List.set_cons_succ, i64_w, i32_w]
         rfl
        refine done_ (done_of HT_.out zF8_10) ?_
        try go_wp2
        go_ret
        exact ⟨by first | rfl | (simp [errW_none, errW_some] <;> rfl) | (simp [*, errW_none, errW_some] <;> rfl), by repeat (first | (with_reducible first | exact HB.out | apply below_alloc | apply pw_below_drewN | apply below_drew1 | refine below_set ?_ GE261.out) | exact HB.out)⟩
       ·rw [if_neg c35] at H
        exact absurd H zF8_21
      ·rw [if_neg c34] at H
       exact absurd H zF8_21
     ·rw [if_neg c32] at H
      exact absurd H zF8_21
    ·rw [if_neg c31] at H
     exact absurd H zF8_21

/-! ### colonnadelaw11_begun: function 12 -/
def colonnadelaw11_begun.f (k : Nat)  : Option (Bool) := (some (([(⟨(⟨#[97]⟩ : ByteArray), (⟨2, 0⟩ : S34), false⟩ : S36), (⟨(⟨#[98]⟩ : ByteArray), (⟨3, 2⟩ : S34), true⟩ : S36)] : List (S36)) : List (S36))).bind fun y272 => ((schema_Fit.f k (⟨#[116]⟩ : ByteArray) y272 (([(⟨(⟨0, 0⟩ : S34), true, 0, (⟨#[]⟩ : ByteArray)⟩ : S41), (⟨(⟨2, 0⟩ : S34), false, 3, (⟨#[]⟩ : ByteArray)⟩ : S41)] : List (S41)))).bind fun bt279 => ((schema_Show.f k (⟨#[116]⟩ : ByteArray) y272).bind fun t283 => (if t283.toList = ([67, 82, 69, 65, 84, 69, 32, 84, 65, 66, 76, 69, 32, 116, 32, 40, 97, 32, 73, 78, 84, 44, 32, 98, 32, 68, 69, 67, 73, 77, 65, 76, 40, 50, 41, 32, 78, 79, 84, 32, 78, 85, 76, 76, 41] : List UInt8) then (if bt279.2 = 0 then (if (bt279.1.length : Int) = 2 then (if 1 < (bt279.1.length : Int) then (some (((rd_T41 bt279.1 1).f2) == 300)) else (none)) else (none)) else (none)) else (none))))
theorem colonnadelaw11_begun.mono : ∀ k, LeO (colonnadelaw11_begun.f k ) (colonnadelaw11_begun.f (k + 1) ) := by
 intro  k
 unfold colonnadelaw11_begun.f
 repeat' first
   | (with_reducible exact schema_Fit.mono _ _ _ _)
   | (with_reducible exact schema_Show.mono _ _ _)
   | (with_reducible exact LeO.refl _)
   | (with_reducible exact LeO.none _)
   | (with_reducible refine LeO.ite ?_ ?_)
   | (with_reducible refine LeO.bind ?_ (fun _ => ?_))
   | exact schema_Fit.mono _ _ _ _
   | exact schema_Show.mono _ _ _
   | exact LeO.none _
   | refine LeO.ite ?_ ?_
   | refine LeO.bind ?_ (fun _ => ?_)
set_option maxHeartbeats 8000000 in
set_option maxRecDepth 100000 in
theorem colonnadelaw11_begun.calls (k : Nat)  (r : Bool) (w : World) (h : colonnadelaw11_begun.f k  = some r) (hG : Gl w) :
  Calls Tryz.prog 12 #[] w fun e w' => e = .returned (.bool r) ∧ Below w.heap.size w w' := by
 have HG := Aside0.mk hG
 clear hG
 have hu34 := Tryz.underlying34
 have hu36 := Tryz.underlying36
 have hu24 := Tryz.underlying24
 have hu41 := Tryz.underlying41
 have HB := Aside0.mk (Below.refl w.heap.size w)
 have H : ((some (([(⟨(⟨#[97]⟩ : ByteArray), (⟨2, 0⟩ : S34), false⟩ : S36), (⟨(⟨#[98]⟩ : ByteArray), (⟨3, 2⟩ : S34), true⟩ : S36)] : List (S36)) : List (S36))).bind fun y272 => ((schema_Fit.f k (⟨#[116]⟩ : ByteArray) y272 (([(⟨(⟨0, 0⟩ : S34), true, 0, (⟨#[]⟩ : ByteArray)⟩ : S41), (⟨(⟨2, 0⟩ : S34), false, 3, (⟨#[]⟩ : ByteArray)⟩ : S41)] : List (S41)))).bind fun bt279 => ((schema_Show.f k (⟨#[116]⟩ : ByteArray) y272).bind fun t283 => (if t283.toList = ([67, 82, 69, 65, 84, 69, 32, 84, 65, 66, 76, 69, 32, 116, 32, 40, 97, 32, 73, 78, 84, 44, 32, 98, 32, 68, 69, 67, 73, 77, 65, 76, 40, 50, 41, 32, 78, 79, 84, 32, 78, 85, 76, 76, 41] : List UInt8) then (if bt279.2 = 0 then (if (bt279.1.length : Int) = 2 then (if 1 < (bt279.1.length : Int) then (some (((rd_T41 bt279.1 1).f2) == 300)) else (none)) else (none)) else (none)) else (none))))) = some r := h
 clear h
 obtain ⟨y272, hy272⟩ : ∃ y_ : List (S36), y_ = (([(⟨(⟨#[97]⟩ : ByteArray), (⟨2, 0⟩ : S34), false⟩ : S36), (⟨(⟨#[98]⟩ : ByteArray), (⟨3, 2⟩ : S34), true⟩ : S36)] : List (S36))) := ⟨_, rfl⟩
 replace H : ((schema_Fit.f k (⟨#[116]⟩ : ByteArray) y272 (([(⟨(⟨0, 0⟩ : S34), true, 0, (⟨#[]⟩ : ByteArray)⟩ : S41), (⟨(⟨2, 0⟩ : S34), false, 3, (⟨#[]⟩ : ByteArray)⟩ : S41)] : List (S41)))).bind fun bt279 => ((schema_Show.f k (⟨#[116]⟩ : ByteArray) y272).bind fun t283 => (if t283.toList = ([67, 82, 69, 65, 84, 69, 32, 84, 65, 66, 76, 69, 32, 116, 32, 40, 97, 32, 73, 78, 84, 44, 32, 98, 32, 68, 69, 67, 73, 77, 65, 76, 40, 50, 41, 32, 78, 79, 84, 32, 78, 85, 76, 76, 41] : List UInt8) then (if bt279.2 = 0 then (if (bt279.1.length : Int) = 2 then (if 1 < (bt279.1.length : Int) then (some (((rd_T41 bt279.1 1).f2) == 300)) else (none)) else (none)) else (none)) else (none)))) = some r := by first | (rw [hy272]; with_reducible exact H) | (have H2_ := (Option.bind_some _ _).symm.trans H; rw [hy272]; with_reducible exact H2_) | (have H2_ := (Option.bind_some _ _).symm.trans H; with_reducible exact H2_) | with_reducible exact H | (rw [hy272]; exact H) | exact H
 have Ny272 := Aside0.mk hy272
 clear hy272
 obtain ⟨y276, hy276⟩ : ∃ y_ : List (S41), y_ = (([(⟨(⟨0, 0⟩ : S34), true, 0, (⟨#[]⟩ : ByteArray)⟩ : S41), (⟨(⟨2, 0⟩ : S34), false, 3, (⟨#[]⟩ : ByteArray)⟩ : S41)] : List (S41))) := ⟨_, rfl⟩
 replace H : ((schema_Fit.f k (⟨#[116]⟩ : ByteArray) y272 y276).bind fun bt279 => ((schema_Show.f k (⟨#[116]⟩ : ByteArray) y272).bind fun t283 => (if t283.toList = ([67, 82, 69, 65, 84, 69, 32, 84, 65, 66, 76, 69, 32, 116, 32, 40, 97, 32, 73, 78, 84, 44, 32, 98, 32, 68, 69, 67, 73, 77, 65, 76, 40, 50, 41, 32, 78, 79, 84, 32, 78, 85, 76, 76, 41] : List UInt8) then (if bt279.2 = 0 then (if (bt279.1.length : Int) = 2 then (if 1 < (bt279.1.length : Int) then (some (((rd_T41 bt279.1 1).f2) == 300)) else (none)) else (none)) else (none)) else (none)))) = some r := by first | (rw [hy276]; with_reducible exact H) | (have H2_ := (Option.bind_some _ _).symm.trans H; rw [hy276]; with_reducible exact H2_) | (have H2_ := (Option.bind_some _ _).symm.trans H; with_reducible exact H2_) | with_reducible exact H | (rw [hy276]; exact H) | exact H
 have Ny276 := Aside0.mk hy276
 clear hy276
 replace H := Option.bind_eq_some_iff.mp H
 obtain ⟨⟨t279, t282⟩, A10, H⟩ := H
 replace H : ((schema_Show.f k (⟨#[116]⟩ : ByteArray) y272).bind fun t283 => (if t283.toList = ([67, 82, 69, 65, 84, 69, 32, 84, 65, 66, 76, 69, 32, 116, 32, 40, 97, 32, 73, 78, 84, 44, 32, 98, 32, 68, 69, 67, 73, 77, 65, 76, 40, 50, 41, 32, 78, 79, 84, 32, 78, 85, 76, 76, 41] : List UInt8) then (if t282 = 0 then (if (t279.length : Int) = 2 then (if 1 < (t279.length : Int) then (some (((rd_T41 t279 1).f2) == 300)) else (none)) else (none)) else (none)) else (none))) = some r := H
 have A1 := Aside0.mk A10
 clear A10
 replace H := Option.bind_eq_some_iff.mp H
 obtain ⟨t283, A20, H⟩ := H
 replace H : (if t283.toList = ([67, 82, 69, 65, 84, 69, 32, 84, 65, 66, 76, 69, 32, 116, 32, 40, 97, 32, 73, 78, 84, 44, 32, 98, 32, 68, 69, 67, 73, 77, 65, 76, 40, 50, 41, 32, 78, 79, 84, 32, 78, 85, 76, 76, 41] : List UInt8) then (if t282 = 0 then (if (t279.length : Int) = 2 then (if 1 < (t279.length : Int) then (some (((rd_T41 t279 1).f2) == 300)) else (none)) else (none)) else (none)) else (none)) = some r := H
 have A2 := Aside0.mk A20
 clear A20
 by_cases c3 : t283.toList = ([67, 82, 69, 65, 84, 69, 32, 84, 65, 66, 76, 69, 32, 116, 32, 40, 97, 32, 73, 78, 84, 44, 32, 98, 32, 68, 69, 67, 73, 77, 65, 76, 40, 50, 41, 32, 78, 79, 84, 32, 78, 85, 76, 76, 41] : List UInt8)
 ·rw [if_pos c3] at H
  have c3b0 : (t283.toList == ([67, 82, 69, 65, 84, 69, 32, 84, 65, 66, 76, 69, 32, 116, 32, 40, 97, 32, 73, 78, 84, 44, 32, 98, 32, 68, 69, 67, 73, 77, 65, 76, 40, 50, 41, 32, 78, 79, 84, 32, 78, 85, 76, 76, 41] : List UInt8)) = true := beq_iff_eq.mpr c3
  have c3b1 : (t283.toList != ([67, 82, 69, 65, 84, 69, 32, 84, 65, 66, 76, 69, 32, 116, 32, 40, 97, 32, 73, 78, 84, 44, 32, 98, 32, 68, 69, 67, 73, 77, 65, 76, 40, 50, 41, 32, 78, 79, 84, 32, 78, 85, 76, 76, 41] : List UInt8)) = false := bne_eq_false_iff_eq.mpr c3
  clear c3
  by_cases c4 : t282 = 0
  ·rw [if_pos c4] at H
   have c4b0 : (t282 == 0) = true := beq_iff_eq.mpr c4
   have c4b1 : (t282 != 0) = false := bne_eq_false_iff_eq.mpr c4
   clear c4
   by_cases c5 : (t279.length : Int) = 2
   ·rw [if_pos c5] at H
    have c5b0 : ((t279.length : Int) == 2) = true := beq_iff_eq.mpr c5
    have c5b1 : ((t279.length : Int) != 2) = false := bne_eq_false_iff_eq.mpr c5
    clear c5
    by_cases c6 : 1 < (t279.length : Int)
    ·rw [if_pos c6] at H
     have c6b0 : decide (1 < (t279.length : Int)) = true := decide_eq_true c6
     have c6b1 : decide (1 < t279.length) = true := decide_eq_true (by omega)
     clear c6
     obtain rfl := Option.some.inj H
     go_enter Tryz.func12, Tryz.ntmps12
     go_wp2_with (first | ((with_reducible refine gate_dst (N := 8) rfl ?_); (try (refine gate_guard (by rfl) ?_; dsimp only)); refine Kd.R_lit k36 _ 36 ?hg (N := 8) ?hd (xs := ([(⟨(⟨#[97]⟩ : ByteArray), (⟨2, 0⟩ : S34), false⟩ : S36), (⟨(⟨#[98]⟩ : ByteArray), (⟨3, 2⟩ : S34), true⟩ : S36)] : List (S36))) (inner := [.string (⟨#[97]⟩ : ByteArray), .int .i64 2, .int .i64 0, .bool false, .string (⟨#[98]⟩ : ByteArray), .int .i64 3, .int .i64 2, .bool true]) (ok := fun _ => True) (okp := fun _ => True) ?hr ?hp (fun _ hk => hk) trivial (Below.refl _ _) (Nat.le_refl _) zF8_21 ?_; (case hd => rfl); (case hg => rfl); (case hr => first | (go_simp; done) | (go_simp; rfl)); (case hp => exact (Reps.c4 (show Kd.M k36 _ _ _ (⟨(⟨#[97]⟩ : ByteArray), (⟨2, 0⟩ : S34), false⟩ : S36) [.string (⟨#[97]⟩ : ByteArray), .int .i64 2, .int .i64 0, .bool false] from (k36_mkM _ _ _ (⟨(⟨#[97]⟩ : ByteArray), (⟨2, 0⟩ : S34), false⟩ : S36) )) (Reps.c4 (show Kd.M k36 _ _ _ (⟨(⟨#[98]⟩ : ByteArray), (⟨3, 2⟩ : S34), true⟩ : S36) [.string (⟨#[98]⟩ : ByteArray), .int .i64 3, .int .i64 2, .bool true] from (k36_mkM _ _ _ (⟨(⟨#[98]⟩ : ByteArray), (⟨3, 2⟩ : S34), true⟩ : S36) )) (Reps.none _ _)))); intro v273 w7 ho8 hb hg_ hnew_; clear hg_ hnew_; (first | rw [← Ny272.out] at ho8 | (simp only [Int.reduceToNat] at ho8; rw [← Ny272.out] at ho8)); have n0_ := Aside0.mk (Kd.R_lower ho8 (below_size zF8_0)); have n1_ := Aside0.mk (below_step zF8_0 hb); clear HB; have HO274 := n0_; have HB := n1_; clear n0_ n1_; clear hb ho8; obtain ⟨Ao9, co9, eo9⟩ := Kd.R_slice HO274.out; subst eo9) | ((with_reducible refine gate_dst (N := 1) rfl ?_); (try (refine gate_guard (by rfl) ?_; dsimp only)); refine box_event ?hg (N := 1) ?hd (cs := #[.string (⟨#[]⟩ : ByteArray), .slice none 0 0]) (t := 24) ?hr ?_; (case hd => rfl); (case hg => rfl); (case hr => first | (go_simp; done) | (go_simp; rfl)); intro gb275 hg w10 hbox hb; have n0_ := Aside0.mk (Kd.R_below zF8_14 hb); have n1_ := Aside0.mk (below_step zF8_0 hb); have n2_ := Aside0.mk (hbox); have n3_ := Aside0.mk ((zF8_24 : w.heap.size ≤ gb275)); have n4_ := Aside0.mk ((zF8_24 : w.heap.size ≤ gb275)); clear HO274; clear HB; have HO274 := n0_; have HB := n1_; have BK275 := n2_; have GW275 := n3_; have GE275 := n4_; clear n0_ n1_ n2_ n3_ n4_; clear hb hbox hg; have hcz11_0 : w10.cell? ⟨gb275, 0, none⟩ = some (.string (⟨#[]⟩ : ByteArray)) := (blk_cell BK275.out 0).trans rfl; have hcz11_1 : w10.cell? ⟨gb275, 1, none⟩ = some (.slice none 0 0) := (blk_cell BK275.out 1).trans rfl; have hfz11_0 := blk_frozen BK275.out 0; have hfz11_1 := blk_frozen BK275.out 1) | ((with_reducible refine gate_dst (N := 15) rfl ?_); (try (refine gate_guard (by rfl) ?_; dsimp only)); refine Kd.R_lit k41 _ 41 ?hg (N := 15) ?hd (xs := ([(⟨(⟨0, 0⟩ : S34), true, 0, (⟨#[]⟩ : ByteArray)⟩ : S41), (⟨(⟨2, 0⟩ : S34), false, 3, (⟨#[]⟩ : ByteArray)⟩ : S41)] : List (S41))) (inner := [.int .i64 0, .int .i64 0, .bool true, .int .i64 0, .string (⟨#[]⟩ : ByteArray), .int .i64 2, .int .i64 0, .bool false, .int .i64 3, .string (⟨#[]⟩ : ByteArray)]) (ok := fun _ => True) (okp := fun _ => True) ?hr ?hp (fun _ hk => hk) trivial (Below.refl _ _) (Nat.le_refl _) zF8_21 ?_; (case hd => rfl); (case hg => rfl); (case hr => first | (go_simp; done) | (go_simp; rfl)); (case hp => exact (Reps.c5 (show Kd.M k41 _ _ _ (⟨(⟨0, 0⟩ : S34), true, 0, (⟨#[]⟩ : ByteArray)⟩ : S41) [.int .i64 0, .int .i64 0, .bool true, .int .i64 0, .string (⟨#[]⟩ : ByteArray)] from (k41_mkM _ _ _ (⟨(⟨0, 0⟩ : S34), true, 0, (⟨#[]⟩ : ByteArray)⟩ : S41) )) (Reps.c5 (show Kd.M k41 _ _ _ (⟨(⟨2, 0⟩ : S34), false, 3, (⟨#[]⟩ : ByteArray)⟩ : S41) [.int .i64 2, .int .i64 0, .bool false, .int .i64 3, .string (⟨#[]⟩ : ByteArray)] from (k41_mkM _ _ _ (⟨(⟨2, 0⟩ : S34), false, 3, (⟨#[]⟩ : ByteArray)⟩ : S41) )) (Reps.none _ _)))); intro v277 w12 ho13 hb hg_ hnew_; clear hg_ hnew_; (first | rw [← Ny276.out] at ho13 | (simp only [Int.reduceToNat] at ho13; rw [← Ny276.out] at ho13)); have n0_ := Aside0.mk (Kd.R_below (by (with_reducible repeat (first | apply Kd.R_alloc | apply Kd.R_drewN | apply Kd.R_drew)); exact (Kd.R_mono (Kd.R_far (p := ⟨gb275, 1, none⟩) (Kd.R_far (p := ⟨gb275, 0, none⟩) (Kd.R_types HO274.out BK275.out (by decide)) (fun _ hk => hk.2) (.string (⟨#[116]⟩ : ByteArray))) (fun _ hk => hk.2) (.slice Ao9 y272.length co9)) (fun _ h_ => h_.1))) hb); have n1_ := Aside0.mk (Kd.R_lower ho13 (below_size zF8_6)); have n2_ := Aside0.mk (blk_below (g := gb275) (o := .cells #[.string (⟨#[116]⟩ : ByteArray), .slice Ao9 y272.length co9] 24 (0, 0)) (by (with_reducible repeat (first | refine blk_drewN ?_ _ | refine blk_drew ?_ | refine blk_alloc ?_ _)); refine blk_put (cs := #[.string (⟨#[116]⟩ : ByteArray), .slice none 0 0]) ?_ 1 _ rfl; (with_reducible repeat (first | refine blk_drewN ?_ _ | refine blk_drew ?_ | refine blk_alloc ?_ _)); refine blk_put (cs := #[.string (⟨#[]⟩ : ByteArray), .slice none 0 0]) ?_ 0 _ rfl; (with_reducible repeat (first | refine blk_drewN ?_ _ | refine blk_drew ?_ | refine blk_alloc ?_ _)); exact BK275.out) hb); have n3_ := Aside0.mk (below_step zF8_6 hb); clear HO274; clear BK275; clear HB; have HO274 := n0_; have HO278 := n1_; have BK275 := n2_; have HB := n3_; clear n0_ n1_ n2_ n3_; clear hb ho13; obtain ⟨Ao14, co14, eo14⟩ := Kd.R_slice HO278.out; subst eo14) | ((with_reducible refine gate_callee (f := 10) rfl ?_); refine goesL_ (some 16) rfl rfl Tryz.func10 zF8_10 rfl #[.agg #[.string (⟨#[116]⟩ : ByteArray), .slice Ao9 y272.length co9], .slice Ao14 y276.length co14] rfl zF8_2 ?_; (with_reducible refine (schema_Fit.calls k (⟨#[116]⟩ : ByteArray) _ _ y272 _ _ y276 t279 t282 _ ?side1 ?side2 ?side3 ?side4 A1.out).mono ?_); (case side1 => repeat (first | exact (Kd.R_reads' HO274.out).2.2 | (with_reducible refine Kd.C_alloc ?_ _) | (with_reducible refine Kd.C_drewN ?_ _) | (with_reducible refine Kd.C_drew ?_))); (case side2 => exact (Kd.R_reads' HO274.out).2.1); (case side3 => repeat (first | exact (Kd.R_reads' HO278.out).2.2 | (with_reducible refine Kd.C_alloc ?_ _) | (with_reducible refine Kd.C_drewN ?_ _) | (with_reducible refine Kd.C_drew ?_))); (case side4 => exact (Kd.R_reads' HO278.out).2.1); rintro e w15 ⟨v280, rfl, ho0, hb⟩; refine ⟨_, rfl, ?_⟩; have n0_ := Aside0.mk (Kd.R_below zF8_14 hb); have n1_ := Aside0.mk (Kd.R_elder' zF8_15 (Kd.R_base ho0) hb); have n2_ := Aside0.mk (Kd.R_lower (Kd.R_new' ho0 (Kd.R_lt zF8_15)) (below_size zF8_6)); have n3_ := Aside0.mk (blk_below (g := gb275) (o := .cells #[.string (⟨#[116]⟩ : ByteArray), .slice Ao9 y272.length co9] 24 (0, 0)) zF8_19 hb); have n4_ := Aside0.mk (below_step zF8_6 hb); clear HO274; clear HO278; clear BK275; clear HB; have HO274 := n0_; have HO278 := n1_; have HO281 := n2_; have BK275 := n3_; have HB := n4_; clear n0_ n1_ n2_ n3_ n4_; (try clear hb); (try clear hb2); (try clear hk); (try clear hi); (try clear ho0); have hcz16_0 : w15.cell? ⟨gb275, 0, none⟩ = some (.string (⟨#[116]⟩ : ByteArray)) := (blk_cell BK275.out 0).trans rfl; have hcz16_1 : w15.cell? ⟨gb275, 1, none⟩ = some (.slice Ao9 y272.length co9) := (blk_cell BK275.out 1).trans rfl; have hfz16_0 := blk_frozen BK275.out 0; have hfz16_1 := blk_frozen BK275.out 1) | ((with_reducible refine gate_callee (f := 16) rfl ?_); refine goesL_ (some 20) rfl rfl Tryz.func16 zF8_10 rfl #[.agg #[.string (⟨#[116]⟩ : ByteArray), .slice Ao9 y272.length co9]] rfl zF8_2 ?_; (with_reducible refine (schema_Show.calls k (⟨#[116]⟩ : ByteArray) _ _ y272 t283 _ ?side1 ?side2 A2.out (Gl.of HG.out (by repeat (first | exact HB.out | apply below_alloc | apply pw_below_drewN | apply below_drew1 | refine below_set ?_ GE275.out)))).mono ?_); (case side1 => repeat (first | exact (Kd.R_reads' HO274.out).2.2 | (with_reducible refine Kd.C_alloc ?_ _) | (with_reducible refine Kd.C_drewN ?_ _) | (with_reducible refine Kd.C_drew ?_))); (case side2 => exact (Kd.R_reads' HO274.out).2.1); rintro e w17 ⟨rfl, hb⟩; refine ⟨_, rfl, ?_⟩; have n0_ := Aside0.mk (Kd.R_below zF8_14 hb); have n1_ := Aside0.mk (Kd.R_below zF8_15 hb); have n2_ := Aside0.mk (Kd.R_below (by (with_reducible repeat (first | apply Kd.R_alloc | apply Kd.R_drewN | apply Kd.R_drew)); exact HO281.out) hb); have n3_ := Aside0.mk (blk_below (g := gb275) (o := .cells #[.string (⟨#[116]⟩ : ByteArray), .slice Ao9 y272.length co9] 24 (0, 0)) zF8_19 hb); have n4_ := Aside0.mk (below_step zF8_6 hb); clear HO274; clear HO278; clear HO281; clear BK275; clear HB; have HO274 := n0_; have HO278 := n1_; have HO281 := n2_; have BK275 := n3_; have HB := n4_; clear n0_ n1_ n2_ n3_ n4_; (try clear hb); (try clear hb2); (try clear hk); (try clear hi); obtain ⟨Ao18, co18, eo18⟩ := Kd.R_slice HO281.out; subst eo18; have p284 : 0 ≤ (1 : Int) := (by omega); have q284 : 1 < (t279.length : Int) := of_decide_eq_true zF8_9; obtain ⟨ad284, e284, hx284_0, hx284_1, hx284_2, hx284_3, hx284_4⟩ := at_T41 (Kd.R_reads' HO281.out).2.2 1 p284 q284; cases e284; (try simp only [show (1 : Int).toNat = 1 from rfl, Nat.reduceMul, Nat.reduceEqDiff, Go.Addr.add, ↓reduceIte] at hx284_0); (try simp only [show (1 : Int).toNat = 1 from rfl, Nat.reduceMul, Nat.reduceEqDiff, Go.Addr.add, ↓reduceIte] at hx284_1); (try simp only [show (1 : Int).toNat = 1 from rfl, Nat.reduceMul, Nat.reduceEqDiff, Go.Addr.add, ↓reduceIte] at hx284_2); (try simp only [show (1 : Int).toNat = 1 from rfl, Nat.reduceMul, Nat.reduceEqDiff, Go.Addr.add, ↓reduceIte] at hx284_3); (try simp only [show (1 : Int).toNat = 1 from rfl, Nat.reduceMul, Nat.reduceEqDiff, Go.Addr.add, ↓reduceIte] at hx284_4); have qi284 : (1 < t279.length) = True := eq_true (by omega); (try rw [show ((1 : Int)).toNat = 1 from rfl] at hx284_0); (try rw [show 1 * 5 = 5 from rfl] at hx284_0); (try rw [show ((1 : Int)).toNat = 1 from rfl] at hx284_1); (try rw [show 1 * 5 = 5 from rfl] at hx284_1); (try rw [show ((1 : Int)).toNat = 1 from rfl] at hx284_2); (try rw [show 1 * 5 = 5 from rfl] at hx284_2); (try rw [show ((1 : Int)).toNat = 1 from rfl] at hx284_3); (try rw [show 1 * 5 = 5 from rfl] at hx284_3); (try rw [show ((1 : Int)).toNat = 1 from rfl] at hx284_4); (try rw [show 1 * 5 = 5 from rfl] at hx284_4); replace p284 := eq_true p284; replace q284 := eq_true q284))
     go_ret
     exact ⟨by first | rfl | (simp [errW_none, errW_some] <;> rfl) | (simp [*, errW_none, errW_some] <;> rfl), by repeat (first | (with_reducible first | exact HB.out | apply below_alloc | apply pw_below_drewN | apply below_drew1 | refine below_set ?_ GE275.out) | exact HB.out)⟩
    ·rw [if_neg c6] at H
     exact absurd H zF8_21
   ·rw [if_neg c5] at H
    exact absurd H zF8_21
  ·rw [if_neg c4] at H
   exact absurd H zF8_21
 ·rw [if_neg c3] at H
  exact absurd H zF8_21

/-! ### colonnaderef02_Same: function 13 -/
def colonnaderef02_Same.l0 : Nat → List (S41) → List (S41) → Int → Option (Bool)
 | 0, _, _, _ => none
 | k + 1, x0, x1, x5 => if x5 < (x0.length : Int) then (if 0 ≤ x5 then (if x5 < (x1.length : Int) then (if ((!(((rd_T41 x0 x5).f0.f0) == ((rd_T41 x1 x5).f0.f0)) || (!(((rd_T41 x0 x5).f0.f1) == ((rd_T41 x1 x5).f0.f1)))) || (!(((rd_T41 x0 x5).f1) == ((rd_T41 x1 x5).f1)) || (!(((rd_T41 x0 x5).f2) == ((rd_T41 x1 x5).f2)) || (!((((rd_T41 x0 x5).f3).toList) == (((rd_T41 x1 x5).f3).toList)))))) = true then (some false) else (colonnaderef02_Same.l0 k x0 x1 (wrap64 (x5 + 1)))) else (none)) else (none)) else (some true)
def colonnaderef02_Same.f (k : Nat) (l0 : List (S41)) (l1 : List (S41)) : Option (Bool) := if (l0.length : Int) = (l1.length : Int) then (colonnaderef02_Same.l0 k l0 l1 0) else (some false)
theorem colonnaderef02_Same.mono_l : ∀ k, (∀ y0 y1 y2, LeO (colonnaderef02_Same.l0 k y0 y1 y2) (colonnaderef02_Same.l0 (k + 1) y0 y1 y2))
 | 0 => fun _ _ _ r h => by simp [colonnaderef02_Same.l0] at h
 | k + 1 => by
  have ih0 := colonnaderef02_Same.mono_l k
  ·intro y0 y1 y2
   unfold colonnaderef02_Same.l0
   repeat' first
   | (with_reducible exact ih0 _ _ _)
   | (with_reducible exact LeO.refl _)
   | (with_reducible exact LeO.none _)
   | (with_reducible refine LeO.ite ?_ ?_)
   | (with_reducible refine LeO.bind ?_ (fun _ => ?_))
   | exact ih0 _ _ _
   | exact LeO.none _
   | refine LeO.ite ?_ ?_
   | refine LeO.bind ?_ (fun _ => ?_)
theorem colonnaderef02_Same.mono : ∀ a0 a1 k, LeO (colonnaderef02_Same.f k a0 a1) (colonnaderef02_Same.f (k + 1) a0 a1) := by
 intro a0 a1 k
 have ih0 := colonnaderef02_Same.mono_l k
 unfold colonnaderef02_Same.f
 repeat' first
   | (with_reducible exact ih0 _ _ _)
   | (with_reducible exact LeO.refl _)
   | (with_reducible exact LeO.none _)
   | (with_reducible refine LeO.ite ?_ ?_)
   | (with_reducible refine LeO.bind ?_ (fun _ => ?_))
   | exact ih0 _ _ _
   | exact LeO.none _
   | refine LeO.ite ?_ ?_
   | refine LeO.bind ?_ (fun _ => ?_)
set_option maxHeartbeats 8000000 in
set_option maxRecDepth 100000 in
theorem colonnaderef02_Same.calls (k : Nat) (A0 : Option Addr) (c0 : Nat) (l0 : List (S41)) (A1 : Option Addr) (c1 : Nat) (l1 : List (S41)) (r : Bool) (w : World) (hr0 : Kd.C k41 w A0 l0.length l0) (hc0 : l0.length ≤ c0) (hr1 : Kd.C k41 w A1 l1.length l1) (hc1 : l1.length ≤ c1) (h : colonnaderef02_Same.f k l0 l1 = some r) :
  Calls Tryz.prog 13 #[.slice A0 l0.length c0, .slice A1 l1.length c1] w fun e w' => e = .returned (.bool r) ∧ Drawn0 w w' := by
 have hu41 := Tryz.underlying41
 have HR0 := Aside0.mk hr0
 have HC0 := Aside0.mk hc0
 clear hr0 hc0
 have HR1 := Aside0.mk hr1
 have HC1 := Aside0.mk hc1
 clear hr1 hc1
 have H : (if (l0.length : Int) = (l1.length : Int) then (colonnaderef02_Same.l0 k l0 l1 0) else (some false)) = some r := h
 clear h
 by_cases c3 : (l0.length : Int) = (l1.length : Int)
 ·rw [if_pos c3] at H
  have c3b0 : ((l0.length : Int) == (l1.length : Int)) = true := beq_iff_eq.mpr c3
  have c3b1 : ((l0.length : Int) != (l1.length : Int)) = false := bne_eq_false_iff_eq.mpr c3
  have c3b2 : (l0.length == l1.length) = true := by first | simpa using c3 | (simp at c3 ⊢; omega)
  clear c3
  have H' := Aside0.mk H
  clear H
  go_enter Tryz.func13, Tryz.ntmps13
  go_wp2
  repeat (go_quiet (fail); try go_wp2)
  go_loopg [5] k (fun kq v5 w' => ∃ (x5_1 : Int), v5 = .int .i64 x5_1 ∧ Aside0 (colonnaderef02_Same.l0 kq l0 l1 x5_1 = some r) ∧ Aside0 (kq ≤ k) ∧ Drawn0 w w')
  case atStart => exact ⟨(0), zF8_18, H', ⟨Nat.le_refl _⟩, by repeat (first | exact Drawn0.refl _ | apply Drawn0.step)⟩
  case round =>
   clear H'
   (try clear c1); (try clear c3); (try clear c3b0); (try clear c3b1); (try clear c3b2)
   obtain ⟨x5_1, rfl, HA, HK1, ⟨m1, rfl⟩⟩ := hrel
   cases gk with
   | zero => exact absurd HA.out (by simp [colonnaderef02_Same.l0])
   | succ k1 =>
    have H := HA.out
    clear HA
    simp only [colonnaderef02_Same.l0] at H
    by_cases c4 : x5_1 < (l0.length : Int)
    ·rw [if_pos c4] at H
     have c4b0 : decide (x5_1 < (l0.length : Int)) = true := decide_eq_true c4
     clear c4
     by_cases c5 : 0 ≤ x5_1
     ·rw [if_pos c5] at H
      have c5b0 : decide (0 ≤ x5_1) = true := decide_eq_true c5
      clear c5
      by_cases c6 : x5_1 < (l1.length : Int)
      ·rw [if_pos c6] at H
       have c6b0 : decide (x5_1 < (l1.length : Int)) = true := decide_eq_true c6
       clear c6
       by_cases c7 : ((!(((rd_T41 l0 x5_1).f0.f0) == ((rd_T41 l1 x5_1).f0.f0)) || (!(((rd_T41 l0 x5_1).f0.f1) == ((rd_T41 l1 x5_1).f0.f1)))) || (!(((rd_T41 l0 x5_1).f1) == ((rd_T41 l1 x5_1).f1)) || (!(((rd_T41 l0 x5_1).f2) == ((rd_T41 l1 x5_1).f2)) || (!((((rd_T41 l0 x5_1).f3).toList) == (((rd_T41 l1 x5_1).f3).toList)))))) = true
       ·rw [if_pos c7] at H
        have c7b0 : ((!(((rd_T41 l0 x5_1).f0.f0) == ((rd_T41 l1 x5_1).f0.f0)) || (!(((rd_T41 l0 x5_1).f0.f1) == ((rd_T41 l1 x5_1).f0.f1)))) || (!(((rd_T41 l0 x5_1).f1) == ((rd_T41 l1 x5_1).f1)) || (!(((rd_T41 l0 x5_1).f2) == ((rd_T41 l1 x5_1).f2)) || (!((((rd_T41 l0 x5_1).f3).toList) == (((rd_T41 l1 x5_1).f3).toList)))))) = true := c7
        clear c7
        obtain rfl := Option.some.inj H
        have p285 : 0 ≤ (x5_1 : Int) := of_decide_eq_true zF8_9
        have q285 : x5_1 < (l0.length : Int) := of_decide_eq_true zF8_9
        obtain ⟨ad285, e285, hx285_0, hx285_1, hx285_2, hx285_3, hx285_4⟩ := at_T41 HR0.out x5_1 p285 q285
        cases e285
        replace p285 := eq_true p285
        replace q285 := eq_true q285
        have p286 : 0 ≤ (x5_1 : Int) := of_decide_eq_true zF8_9
        have q286 : x5_1 < (l1.length : Int) := of_decide_eq_true zF8_9
        obtain ⟨ad286, e286, hx286_0, hx286_1, hx286_2, hx286_3, hx286_4⟩ := at_T41 HR1.out x5_1 p286 q286
        cases e286
        replace p286 := eq_true p286
        replace q286 := eq_true q286
        go_wp2
        repeat (go_quiet (fail); try go_wp2)
        go_ret
        exact ⟨by first | rfl | (simp; done) | (simp [*]; done), by repeat (first | exact Drawn0.refl _ | apply Drawn0.step)⟩
       ·rw [if_neg c7] at H
        have c7b0 : ((!(((rd_T41 l0 x5_1).f0.f0) == ((rd_T41 l1 x5_1).f0.f0)) || (!(((rd_T41 l0 x5_1).f0.f1) == ((rd_T41 l1 x5_1).f0.f1)))) || (!(((rd_T41 l0 x5_1).f1) == ((rd_T41 l1 x5_1).f1)) || (!(((rd_T41 l0 x5_1).f2) == ((rd_T41 l1 x5_1).f2)) || (!((((rd_T41 l0 x5_1).f3).toList) == (((rd_T41 l1 x5_1).f3).toList)))))) = false := by simpa using c7
        clear c7
        have H' := Aside0.mk H
        clear H
        have p285 : 0 ≤ (x5_1 : Int) := of_decide_eq_true zF8_9
        have q285 : x5_1 < (l0.length : Int) := of_decide_eq_true zF8_9
        obtain ⟨ad285, e285, hx285_0, hx285_1, hx285_2, hx285_3, hx285_4⟩ := at_T41 HR0.out x5_1 p285 q285
        cases e285
        replace p285 := eq_true p285
        replace q285 := eq_true q285
        have p286 : 0 ≤ (x5_1 : Int) := of_decide_eq_true zF8_9
        have q286 : x5_1 < (l1.length : Int) := of_decide_eq_true zF8_9
        obtain ⟨ad286, e286, hx286_0, hx286_1, hx286_2, hx286_3, hx286_4⟩ := at_T41 HR1.out x5_1 p286 q286
        cases e286
        replace p286 := eq_true p286
        replace q286 := eq_true q286
        go_wp2
        repeat (go_quiet (fail); try go_wp2)
        go_roundg k1
        case measure => have := HK1.out; omega
        case rel => exact ⟨(wrap64 (x5_1 + 1)), zF8_18, H', ⟨by have := HK1.out; omega⟩, by repeat (first | exact Drawn0.refl _ | apply Drawn0.step)⟩
      ·rw [if_neg c6] at H
       exact absurd H zF8_21
     ·rw [if_neg c5] at H
      exact absurd H zF8_21
    ·rw [if_neg c4] at H
     have c4b0 : decide (x5_1 < (l0.length : Int)) = false := decide_eq_false c4
     clear c4
     obtain rfl := Option.some.inj H
     go_wp2
     repeat (go_quiet (fail); try go_wp2)
     go_ret
     exact ⟨by first | rfl | (simp; done) | (simp [*]; done), by repeat (first | exact Drawn0.refl _ | apply Drawn0.step)⟩
 ·rw [if_neg c3] at H
  have c3b0 : ((l0.length : Int) == (l1.length : Int)) = false := beq_eq_false_iff_ne.mpr c3
  have c3b1 : ((l0.length : Int) != (l1.length : Int)) = true := bne_iff_ne.mpr c3
  have c3b2 : (l0.length == l1.length) = false := by first | simpa using c3 | (simp at c3 ⊢; omega)
  obtain rfl := Option.some.inj H
  go_enter Tryz.func13, Tryz.ntmps13
  go_wp2
  repeat (go_quiet (fail); try go_wp2)
  go_ret
  exact ⟨by first | rfl | (simp; done) | (simp [*]; done), by repeat (first | exact Drawn0.refl _ | apply Drawn0.step)⟩

/-! ### colonnadelaw11_SchemaFits: function 3 -/
def colonnadelaw11_SchemaFits.f (k : Nat) (a0_0 : ByteArray) (l0_1 : List (S36)) (l1 : List (S41)) : Option (Bool) := (schema_Fit.f k a0_0 l0_1 l1).bind fun bt288 => ((colonnaderef11_Fit.f k a0_0 l0_1 l1).bind fun bt292 => ((colonnadelaw11_begun.f k).bind fun t296 => (if t296 = true then ((colonnaderef02_Same.f k bt288.1 bt292.1).bind fun t297 => (if t297 = true then (some (bt288.2 == bt292.2)) else (none))) else (none))))
theorem colonnadelaw11_SchemaFits.mono : ∀ a0 a1 a2 k, LeO (colonnadelaw11_SchemaFits.f k a0 a1 a2) (colonnadelaw11_SchemaFits.f (k + 1) a0 a1 a2) := by
 intro a0 a1 a2 k
 unfold colonnadelaw11_SchemaFits.f
 repeat' first
   | (with_reducible exact colonnadelaw11_begun.mono _)
   | (with_reducible exact colonnaderef02_Same.mono _ _ _)
   | (with_reducible exact colonnaderef11_Fit.mono _ _ _ _)
   | (with_reducible exact schema_Fit.mono _ _ _ _)
   | (with_reducible exact LeO.refl _)
   | (with_reducible exact LeO.none _)
   | (with_reducible refine LeO.ite ?_ ?_)
   | (with_reducible refine LeO.bind ?_ (fun _ => ?_))
   | exact colonnadelaw11_begun.mono _
   | exact colonnaderef02_Same.mono _ _ _
   | exact colonnaderef11_Fit.mono _ _ _ _
   | exact schema_Fit.mono _ _ _ _
   | exact LeO.none _
   | refine LeO.ite ?_ ?_
   | refine LeO.bind ?_ (fun _ => ?_)
set_option maxHeartbeats 8000000 in
set_option maxRecDepth 100000 in
theorem colonnadelaw11_SchemaFits.calls (k : Nat) (a0_0 : ByteArray) (A0_1 : Option Addr) (c0_1 : Nat) (l0_1 : List (S36)) (A1 : Option Addr) (c1 : Nat) (l1 : List (S41)) (r : Bool) (w : World) (hr0_1 : Kd.C k36 w A0_1 l0_1.length l0_1) (hc0_1 : l0_1.length ≤ c0_1) (hr1 : Kd.C k41 w A1 l1.length l1) (hc1 : l1.length ≤ c1) (h : colonnadelaw11_SchemaFits.f k a0_0 l0_1 l1 = some r) (hG : Gl w) :
  Calls Tryz.prog 3 #[.agg #[.string a0_0, .slice A0_1 l0_1.length c0_1], .slice A1 l1.length c1] w fun e w' => e = .returned (.bool r) ∧ Below w.heap.size w w' := by
 have HG := Aside0.mk hG
 clear hG
 have hu24 := Tryz.underlying24
 have HR0_1 := Aside0.mk hr0_1
 have HC0_1 := Aside0.mk hc0_1
 clear hr0_1 hc0_1
 have HR1 := Aside0.mk hr1
 have HC1 := Aside0.mk hc1
 clear hr1 hc1
 have HB := Aside0.mk (Below.refl w.heap.size w)
 have H : ((schema_Fit.f k a0_0 l0_1 l1).bind fun bt288 => ((colonnaderef11_Fit.f k a0_0 l0_1 l1).bind fun bt292 => ((colonnadelaw11_begun.f k).bind fun t296 => (if t296 = true then ((colonnaderef02_Same.f k bt288.1 bt292.1).bind fun t297 => (if t297 = true then (some (bt288.2 == bt292.2)) else (none))) else (none))))) = some r := h
 clear h
 replace H := Option.bind_eq_some_iff.mp H
 obtain ⟨⟨t288, t291⟩, A30, H⟩ := H
 replace H : ((colonnaderef11_Fit.f k a0_0 l0_1 l1).bind fun bt292 => ((colonnadelaw11_begun.f k).bind fun t296 => (if t296 = true then ((colonnaderef02_Same.f k t288 bt292.1).bind fun t297 => (if t297 = true then (some (t291 == bt292.2)) else (none))) else (none)))) = some r := H
 have A3 := Aside0.mk A30
 clear A30
 replace H := Option.bind_eq_some_iff.mp H
 obtain ⟨⟨t292, t295⟩, A40, H⟩ := H
 replace H : ((colonnadelaw11_begun.f k).bind fun t296 => (if t296 = true then ((colonnaderef02_Same.f k t288 t292).bind fun t297 => (if t297 = true then (some (t291 == t295)) else (none))) else (none))) = some r := H
 have A4 := Aside0.mk A40
 clear A40
 replace H := Option.bind_eq_some_iff.mp H
 obtain ⟨t296, A50, H⟩ := H
 replace H : (if t296 = true then ((colonnaderef02_Same.f k t288 t292).bind fun t297 => (if t297 = true then (some (t291 == t295)) else (none))) else (none)) = some r := H
 have A5 := Aside0.mk A50
 clear A50
 by_cases c6 : t296 = true
 ·subst c6
  have H1 : ((colonnaderef02_Same.f k t288 t292).bind fun t297 => (if t297 = true then (some (t291 == t295)) else (none))) = some r := by rw [if_pos rfl] at H; exact H
  clear H
  have H := H1
  clear H1
  replace H := Option.bind_eq_some_iff.mp H
  obtain ⟨t297, A70, H⟩ := H
  replace H : (if t297 = true then (some (t291 == t295)) else (none)) = some r := H
  have A7 := Aside0.mk A70
  clear A70
  by_cases c8 : t297 = true
  ·subst c8
   have H1 : (some (t291 == t295)) = some r := by rw [if_pos rfl] at H; exact H
   clear H
   have H := H1
   clear H1
   obtain rfl := Option.some.inj H
   go_enter Tryz.func3, Tryz.ntmps3
   go_wp2_with (first | ((with_reducible refine gate_dst (N := 2) rfl ?_); refine box_event ?hg (N := 2) ?hd (cs := #[.string a0_0, .slice A0_1 l0_1.length c0_1]) (t := 24) ?hr ?_; (case hd => rfl); (case hg => rfl); (case hr => first | (go_simp; done) | (go_simp; rfl)); intro gb287 hg w9 hbox hb; have n0_ := Aside0.mk (below_step zF8_0 hb); have n1_ := Aside0.mk (hbox); have n2_ := Aside0.mk ((zF8_24 : w.heap.size ≤ gb287)); have n3_ := Aside0.mk ((zF8_24 : w.heap.size ≤ gb287)); clear HB; have HB := n0_; have BK287 := n1_; have GW287 := n2_; have GE287 := n3_; clear n0_ n1_ n2_ n3_; clear hb hbox hg; have hcz10_0 : w9.cell? ⟨gb287, 0, none⟩ = some (.string a0_0) := (blk_cell BK287.out 0).trans rfl; have hcz10_1 : w9.cell? ⟨gb287, 1, none⟩ = some (.slice A0_1 l0_1.length c0_1) := (blk_cell BK287.out 1).trans rfl; have hfz10_0 := blk_frozen BK287.out 0; have hfz10_1 := blk_frozen BK287.out 1) | ((with_reducible refine gate_callee (f := 10) rfl ?_); refine goesL_ (some 12) rfl rfl Tryz.func10 zF8_10 rfl #[.agg #[.string a0_0, .slice A0_1 l0_1.length c0_1], .slice A1 l1.length c1] rfl zF8_2 ?_; (with_reducible refine (schema_Fit.calls k a0_0 _ _ l0_1 _ _ l1 t288 t291 _ ?side1 ?side2 ?side3 ?side4 A3.out).mono ?_); (case side1 => repeat (first | exact (Kd.C_below HR0_1.out HB.out) | (with_reducible refine Kd.C_alloc ?_ _) | (with_reducible refine Kd.C_drewN ?_ _) | (with_reducible refine Kd.C_drew ?_))); (case side2 => exact HC0_1.out); (case side3 => repeat (first | exact (Kd.C_below HR1.out HB.out) | (with_reducible refine Kd.C_alloc ?_ _) | (with_reducible refine Kd.C_drewN ?_ _) | (with_reducible refine Kd.C_drew ?_))); (case side4 => exact HC1.out); rintro e w11 ⟨v289, rfl, ho0, hb⟩; refine ⟨_, rfl, ?_⟩; have n0_ := Aside0.mk (Kd.R_lower ho0 (below_size zF8_7)); have n1_ := Aside0.mk (blk_below (g := gb287) (o := .cells #[.string a0_0, .slice A0_1 l0_1.length c0_1] 24 (0, 0)) zF8_12 hb); have n2_ := Aside0.mk (below_step zF8_7 hb); clear BK287; clear HB; have HO290 := n0_; have BK287 := n1_; have HB := n2_; clear n0_ n1_ n2_; (try clear hb); (try clear hb2); (try clear hk); (try clear hi); (try clear ho0); have hcz12_0 : w11.cell? ⟨gb287, 0, none⟩ = some (.string a0_0) := (blk_cell BK287.out 0).trans rfl; have hcz12_1 : w11.cell? ⟨gb287, 1, none⟩ = some (.slice A0_1 l0_1.length c0_1) := (blk_cell BK287.out 1).trans rfl; have hfz12_0 := blk_frozen BK287.out 0; have hfz12_1 := blk_frozen BK287.out 1) | ((with_reducible refine gate_callee (f := 11) rfl ?_); refine goesL_ (some 18) rfl rfl Tryz.func11 zF8_10 rfl #[.agg #[.string a0_0, .slice A0_1 l0_1.length c0_1], .slice A1 l1.length c1] rfl zF8_2 ?_; (with_reducible refine (colonnaderef11_Fit.calls k a0_0 _ _ l0_1 _ _ l1 t292 t295 _ ?side1 ?side2 ?side3 ?side4 A4.out).mono ?_); (case side1 => repeat (first | exact (Kd.C_below HR0_1.out HB.out) | (with_reducible refine Kd.C_alloc ?_ _) | (with_reducible refine Kd.C_drewN ?_ _) | (with_reducible refine Kd.C_drew ?_))); (case side2 => exact HC0_1.out); (case side3 => repeat (first | exact (Kd.C_below HR1.out HB.out) | (with_reducible refine Kd.C_alloc ?_ _) | (with_reducible refine Kd.C_drewN ?_ _) | (with_reducible refine Kd.C_drew ?_))); (case side4 => exact HC1.out); rintro e w13 ⟨v293, rfl, ho0, hb⟩; refine ⟨_, rfl, ?_⟩; have n0_ := Aside0.mk (Kd.R_elder' zF8_16 (Kd.R_base ho0) hb); have n1_ := Aside0.mk (Kd.R_lower (Kd.R_new' ho0 (Kd.R_lt zF8_16)) (below_size zF8_7)); have n2_ := Aside0.mk (blk_below (g := gb287) (o := .cells #[.string a0_0, .slice A0_1 l0_1.length c0_1] 24 (0, 0)) zF8_12 hb); have n3_ := Aside0.mk (below_step zF8_7 hb); clear HO290; clear BK287; clear HB; have HO290 := n0_; have HO294 := n1_; have BK287 := n2_; have HB := n3_; clear n0_ n1_ n2_ n3_; (try clear hb); (try clear hb2); (try clear hk); (try clear hi); (try clear ho0)) | ((with_reducible refine gate_callee (f := 12) rfl ?_); refine goesL_ (some 21) rfl rfl Tryz.func12 zF8_10 rfl #[] rfl zF8_2 ?_; (with_reducible refine (colonnadelaw11_begun.calls k  true _ A5.out (Gl.of HG.out (by repeat (first | exact HB.out | apply below_alloc | apply pw_below_drewN | apply below_drew1 | refine below_set ?_ GE287.out)))).mono ?_); rintro e w14 ⟨rfl, hb⟩; refine ⟨_, rfl, ?_⟩; have n0_ := Aside0.mk (Kd.R_below zF8_16 hb); have n1_ := Aside0.mk (Kd.R_below (by (with_reducible repeat (first | apply Kd.R_alloc | apply Kd.R_drewN | apply Kd.R_drew)); exact HO294.out) hb); have n2_ := Aside0.mk (blk_below (g := gb287) (o := .cells #[.string a0_0, .slice A0_1 l0_1.length c0_1] 24 (0, 0)) zF8_12 hb); have n3_ := Aside0.mk (below_step zF8_7 hb); clear HO290; clear HO294; clear BK287; clear HB; have HO290 := n0_; have HO294 := n1_; have BK287 := n2_; have HB := n3_; clear n0_ n1_ n2_ n3_; (try clear hb); (try clear hb2); (try clear hk); (try clear hi); obtain ⟨Ao15, co15, eo15⟩ := Kd.R_slice HO290.out; subst eo15; obtain ⟨Ao16, co16, eo16⟩ := Kd.R_slice HO294.out; subst eo16) | (go_at_call 13; (with_reducible refine (colonnaderef02_Same.calls k _ _ t288 _ _ t292 true _ ?side1 ?side2 ?side3 ?side4 A7.out).mono ?_); (case side1 => repeat (first | exact (Kd.R_reads' HO290.out).2.2 | (with_reducible refine Kd.C_alloc ?_ _) | (with_reducible refine Kd.C_drewN ?_ _) | (with_reducible refine Kd.C_drew ?_))); (case side2 => exact (Kd.R_reads' HO290.out).2.1); (case side3 => repeat (first | exact (Kd.R_reads' HO294.out).2.2 | (with_reducible refine Kd.C_alloc ?_ _) | (with_reducible refine Kd.C_drewN ?_ _) | (with_reducible refine Kd.C_drew ?_))); (case side4 => exact (Kd.R_reads' HO294.out).2.1); rintro e w' ⟨rfl, ⟨nd, rfl⟩⟩))
   go_ret
   exact ⟨by first | rfl | (simp [errW_none, errW_some] <;> rfl) | (simp [*, errW_none, errW_some] <;> rfl), by repeat (first | (with_reducible first | exact HB.out | apply below_alloc | apply pw_below_drewN | apply below_drew1 | refine below_set ?_ GE287.out) | exact HB.out)⟩
  ·replace c8 := Bool.eq_false_iff.mpr c8
   subst c8
   have H1 : (none) = some r := by rw [if_neg (show ¬ (false = true) by decide)] at H; exact H
   clear H
   have H := H1
   clear H1
   exact absurd H zF8_21
 ·replace c6 := Bool.eq_false_iff.mpr c6
  subst c6
  have H1 : (none) = some r := by rw [if_neg (show ¬ (false = true) by decide)] at H; exact H
  clear H
  have H := H1
  clear H1
  exact absurd H zF8_21

end Go.Proofs.YtmeopdjdjmjngaaGreatDoor.F
