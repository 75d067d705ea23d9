/- PRINTED BY A PROGRAM OF THIS SESSION (px.py, over the kit's print): Lean functions with the answers of Go functions of the given program, and proofs that the Go code comes to these answers; each under the conditions that its theorem states. -/
import Derived.Test.YtmeopdjdjmjngaaGreatDoorF0
import Derived.Test.YtmeopdjdjmjngaaGreatDoorF4
import Derived.Test.YtmeopdjdjmjngaaGreatDoorF6
namespace Go.Proofs.YtmeopdjdjmjngaaGreatDoor.F
open Go.RowKit Go.Proofs.YtmeopdjdjmjngaaGreatDoorW.PrintWords Go.Proofs.YtmeopdjdjmjngaaGreatDoorW.PrintLast Go.Proofs.YtmeopdjdjmjngaaGreatDoorW.PrintMore
attribute [local go_sem] max2_int min2_int max_two min_two max_three min_three max_four min_four   -- for this text's walks alone
set_option linter.unusedVariables false
set_option linter.unusedSimpArgs false
theorem zF7_0 {P : Prop} (h : P := by (with_reducible repeat (first | refine blk_drewN ?_ _ | refine blk_drew ?_ | refine blk_alloc ?_ _)); exact BK236.out) : P := h
theorem zF7_1 {P : Prop} (h : P := by repeat (first | (with_reducible first | exact HB.out | apply below_alloc | apply pw_below_drewN | apply below_drew1 | refine below_set ?_ GE236.out | refine below_set ?_ GE238.out) | exact HB.out)) : P := h
theorem zF7_2 {P : Prop} (h : P := by first | (rw [add_block]; exact hn239_0) | (show (Addr.add _ _).block ≠ _; rw [add_block]; exact hn239_0) | exact hn239_0) : P := h
theorem zF7_3 {P : Prop} (h : P := by first | (rw [add_block]; exact hn239_1) | (show (Addr.add _ _).block ≠ _; rw [add_block]; exact hn239_1) | exact hn239_1) : P := h
theorem zF7_4 {P : Prop} (h : P := by first | (rw [add_block]; exact hn239_2) | (show (Addr.add _ _).block ≠ _; rw [add_block]; exact hn239_2) | exact hn239_2) : P := h
theorem zF7_5 {P : Prop} (h : P := by first | (rw [add_block]; exact hn239_3) | (show (Addr.add _ _).block ≠ _; rw [add_block]; exact hn239_3) | exact hn239_3) : P := h
theorem zF7_6 {P : Prop} (h : P := by (with_reducible repeat (first | refine blk_drewN ?_ _ | refine blk_drew ?_ | refine blk_alloc ?_ _)); exact BK238.out) : P := h
theorem zF7_7 {P : Prop} (h : P := by repeat (first | (with_reducible first | exact HB.out | apply below_alloc | apply pw_below_drewN | apply below_drew1 | refine below_set ?_ GE236.out) | exact HB.out)) : P := h
theorem zF7_8 {P : Prop} (h : P := by (with_reducible repeat (first | refine blk_drewN ?_ _ | refine blk_drew ?_ | refine blk_alloc ?_ _)); refine blk_put (cs := #[.int .i64 t251, .int .i64 t252, .bool t253, .int .i64 t254, .string (⟨#[]⟩ : ByteArray)]) ?_ 4 _ rfl; (with_reducible repeat (first | refine blk_drewN ?_ _ | refine blk_drew ?_ | refine blk_alloc ?_ _)); refine blk_put (cs := #[.int .i64 t251, .int .i64 t252, .bool t253, .int .i64 0, .string (⟨#[]⟩ : ByteArray)]) ?_ 3 _ rfl; (with_reducible repeat (first | refine blk_drewN ?_ _ | refine blk_drew ?_ | refine blk_alloc ?_ _)); refine blk_put (cs := #[.int .i64 t251, .int .i64 t252, .bool false, .int .i64 0, .string (⟨#[]⟩ : ByteArray)]) ?_ 2 _ rfl; (with_reducible repeat (first | refine blk_drewN ?_ _ | refine blk_drew ?_ | refine blk_alloc ?_ _)); refine blk_put (cs := #[.int .i64 t251, .int .i64 0, .bool false, .int .i64 0, .string (⟨#[]⟩ : ByteArray)]) ?_ 1 _ rfl; (with_reducible repeat (first | refine blk_drewN ?_ _ | refine blk_drew ?_ | refine blk_alloc ?_ _)); refine blk_put (cs := #[.int .i64 0, .int .i64 0, .bool false, .int .i64 0, .string (⟨#[]⟩ : ByteArray)]) ?_ 0 _ rfl; (with_reducible repeat (first | refine blk_drewN ?_ _ | refine blk_drew ?_ | refine blk_alloc ?_ _)); exact BK257.out) : P := h
theorem zF7_9 {P : Prop} (h : P := by repeat (first | (with_reducible first | exact HB.out | apply below_alloc | apply pw_below_drewN | apply below_drew1 | refine below_set ?_ GE236.out | refine below_set ?_ GE238.out | refine below_set ?_ GE257.out) | exact HB.out)) : P := h
theorem zF7_10 {P : Prop} (h : P := by (with_reducible repeat (first | apply Kd.R_alloc | apply Kd.R_drewN | apply Kd.R_drew)); exact HO_6.out) : P := h
theorem zF7_11 {P : Prop} (h : P := by first | (with_reducible assumption) | assumption) : P := h
theorem zF7_12 {P : Prop} (h : P := by kernel_rfl) : P := h
theorem zF7_13 {P : Prop} (h : P := by (try simp only [List.map_toArray, List.map_cons, List.map_nil]); first | done | rfl | (simp only [List.length_drop, List.length_take]; rfl)) : P := h
theorem zF7_14 {P : Prop} (h : P := by (with_reducible repeat (first | refine blk_drewN ?_ _ | refine blk_drew ?_ | refine blk_alloc ?_ _)); exact BK257.out) : P := h
theorem zF7_15 {P : Prop} (h : P := by first | exact hw250_0 | (rw [Nbq9.out]; exact hw250_0)) : P := h
theorem zF7_16 {P : Prop} (h : P := by first | exact hw250_1 | (rw [Nbq9.out]; exact hw250_1)) : P := h
theorem zF7_17 {P : Prop} (h : P := by first | exact hw250_2 | (rw [Nbq9.out]; exact hw250_2)) : P := h
theorem zF7_18 {P : Prop} (h : P := by first | exact hw250_3 | (rw [Nbq9.out]; exact hw250_3)) : P := h
theorem zF7_19 {P : Prop} (h : P := by first | exact hw250_4 | (rw [Nbq9.out]; exact hw250_4)) : P := h
theorem zF7_20 {P : Prop} (h : P := by (with_reducible repeat (first | apply Kd.R_alloc | apply Kd.R_drewN | apply Kd.R_drew)); exact Kd.R_mono HO_6.out (fun _ hk => hk.2)) : P := h
theorem zF7_21 {P : Prop} (h : P := by repeat (first | (with_reducible first | exact HB.out | apply below_alloc | apply pw_below_drewN | apply below_drew1) | exact HB.out)) : P := h
theorem zF7_22 {P : Prop} (h : P := by simp only [putAll, Act.put, List.setIfInBounds_toArray, List.set_cons_zero, List.set_cons_succ]) : P := h
theorem zF7_23 {P : Prop} (h : P := by first | exact hw248_0 | (rw [Nbq9.out]; exact hw248_0)) : P := h
theorem zF7_24 {P : Prop} (h : P := by first | exact hw248_1 | (rw [Nbq9.out]; exact hw248_1)) : P := h
theorem zF7_25 {P : Prop} (h : P := by first | exact hw248_2 | (rw [Nbq9.out]; exact hw248_2)) : P := h
theorem zF7_26 {P : Prop} (h : P := by first | exact hw248_3 | (rw [Nbq9.out]; exact hw248_3)) : P := h
theorem zF7_27 {P : Prop} (h : P := by first | exact hw248_4 | (rw [Nbq9.out]; exact hw248_4)) : P := h
theorem zF7_28 {P : Prop} (h : P := by decide) : P := h
theorem zF7_29 {P : Prop} (h : P := by first | rfl | (rw [← Nbq9.out]; rfl)) : P := h
theorem zF7_30 {P : Prop} (h : P := by rw [hg]; exact Nat.ne_of_lt (blk_lt (g := gb236) (o := .cells #[.string a0_0, .slice (some ad237) l0_1.length c0_1] 24 (0, 0)) zF7_0)) : P := h
theorem zF7_31 {P : Prop} (h : P := by rw [hg]; exact Nat.ne_of_gt (blk_lt (g := gb236) (o := .cells #[.string a0_0, .slice (some ad237) l0_1.length c0_1] 24 (0, 0)) zF7_0)) : P := h
theorem zF7_32 {P : Prop} (h : P := by rw [hg]; exact Nat.ne_of_lt (blk_lt (g := gb238) (o := .cells #[.string ((rd_T36 l0_1 x7_1).f0), .int .i64 ((rd_T36 l0_1 x7_1).f1.f0), .int .i64 ((rd_T36 l0_1 x7_1).f1.f1), .bool ((rd_T36 l0_1 x7_1).f2)] 36 (0, 0)) zF7_6)) : P := h
theorem zF7_33 {P : Prop} (h : P := by rw [hg]; exact Nat.ne_of_gt (blk_lt (g := gb238) (o := .cells #[.string ((rd_T36 l0_1 x7_1).f0), .int .i64 ((rd_T36 l0_1 x7_1).f1.f0), .int .i64 ((rd_T36 l0_1 x7_1).f1.f1), .bool ((rd_T36 l0_1 x7_1).f2)] 36 (0, 0)) zF7_6)) : P := h
theorem zF7_34 {P : Prop} (h : P := by rw [hg]; exact (below_size zF7_7)) : P := h
theorem zF7_35 {P : Prop} (h : P := by rw [hg]; exact (below_size zF7_1)) : P := h

/-! ### colonnaderef11_Fit: function 11 -/
def colonnaderef11_Fit.l0 : Nat → List (S41) → List (S41) → Int → ByteArray → List (S36) → Option ((List (S41)) × Int)
 | 0, _, _, _, _, _ => none
 | k + 1, x1, x6, x7, x237000, x237001 => if x7 < (x1.length : Int) then (if 0 ≤ x7 then (if x7 < (x237001.length : Int) then (if (rd_T41 x1 x7).f1 = true then (if (rd_T36 x237001 x7).f2 = true then (some (([] : List (S41)), 112)) else ((colonnaderef02_None.f ((rd_T36 x237001 x7).f1.f0) ((rd_T36 x237001 x7).f1.f1)).bind fun bt240 => (if x6.length < 2932031007402 then (colonnaderef11_Fit.l0 k x1 (x6 ++ [(⟨(⟨bt240.1, bt240.2.1⟩ : S34), bt240.2.2.1, bt240.2.2.2.1, bt240.2.2.2.2⟩ : S41)]) (wrap64 (x7 + 1)) x237000 x237001) else (none)))) else ((colonnaderef02_Alike.f ((rd_T41 x1 x7).f0.f0) ((rd_T41 x1 x7).f0.f1) ((rd_T36 x237001 x7).f1.f0) ((rd_T36 x237001 x7).f1.f1)).bind fun t249 => (if t249 = true then ((colonnaderef02_Cast.f k ((rd_T41 x1 x7).f0.f0) ((rd_T41 x1 x7).f0.f1) ((rd_T41 x1 x7).f1) ((rd_T41 x1 x7).f2) ((rd_T41 x1 x7).f3) ((rd_T36 x237001 x7).f1.f0) ((rd_T36 x237001 x7).f1.f1)).bind fun bt251 => (if bt251.2.2.2.2.2 = 0 then (if x6.length < 2932031007402 then (colonnaderef11_Fit.l0 k x1 (x6 ++ [(⟨(⟨bt251.1, bt251.2.1⟩ : S34), bt251.2.2.1, bt251.2.2.2.1, bt251.2.2.2.2.1⟩ : S41)]) (wrap64 (x7 + 1)) x237000 x237001) else (none)) else (some (([] : List (S41)), bt251.2.2.2.2.2)))) else (some (([] : List (S41)), 21))))) else (none)) else (none)) else (some (x6, 0))
def colonnaderef11_Fit.f (k : Nat) (a0_0 : ByteArray) (l0_1 : List (S36)) (l1 : List (S41)) : Option ((List (S41)) × Int) := if (l1.length : Int) = (l0_1.length : Int) then (colonnaderef11_Fit.l0 k l1 ([] : List (S41)) 0 a0_0 l0_1) else (some (([] : List (S41)), 113))
theorem colonnaderef11_Fit.mono_l : ∀ k, (∀ y0 y1 y2 y3 y4, LeO (colonnaderef11_Fit.l0 k y0 y1 y2 y3 y4) (colonnaderef11_Fit.l0 (k + 1) y0 y1 y2 y3 y4))
 | 0 => fun _ _ _ _ _ r h => by simp [colonnaderef11_Fit.l0] at h
 | k + 1 => by
  have ih0 := colonnaderef11_Fit.mono_l k
  ·intro y0 y1 y2 y3 y4
   unfold colonnaderef11_Fit.l0
   repeat' first
   | (with_reducible exact ih0 _ _ _ _ _)
   | (with_reducible exact colonnaderef02_Cast.mono _ _ _ _ _ _ _ _)
   | (with_reducible exact LeO.refl _)
   | (with_reducible exact LeO.none _)
   | (with_reducible refine LeO.ite ?_ ?_)
   | (with_reducible refine LeO.bind ?_ (fun _ => ?_))
   | exact ih0 _ _ _ _ _
   | exact colonnaderef02_Cast.mono _ _ _ _ _ _ _ _
   | exact LeO.none _
   | refine LeO.ite ?_ ?_
   | refine LeO.bind ?_ (fun _ => ?_)
theorem colonnaderef11_Fit.mono : ∀ a0 a1 a2 k, LeO (colonnaderef11_Fit.f k a0 a1 a2) (colonnaderef11_Fit.f (k + 1) a0 a1 a2) := by
 intro a0 a1 a2 k
 have ih0 := colonnaderef11_Fit.mono_l k
 unfold colonnaderef11_Fit.f
 repeat' first
   | (with_reducible exact ih0 _ _ _ _ _)
   | (with_reducible exact colonnaderef02_Cast.mono _ _ _ _ _ _ _ _)
   | (with_reducible exact LeO.refl _)
   | (with_reducible exact LeO.none _)
   | (with_reducible refine LeO.ite ?_ ?_)
   | (with_reducible refine LeO.bind ?_ (fun _ => ?_))
   | exact ih0 _ _ _ _ _
   | exact colonnaderef02_Cast.mono _ _ _ _ _ _ _ _
   | exact LeO.none _
   | refine LeO.ite ?_ ?_
   | refine LeO.bind ?_ (fun _ => ?_)
def colonnaderef11_Fit.T12 : Bool × List (List Nat × List Nat) := (true, [([], []), ([], []), ([0, 1], [0, 1]), ([2], [2]), ([3], [3]), ([], []), ([5], [5]), ([4, 6], [4, 6]), ([7], [7])])
def colonnaderef11_Fit.B12 : List Nat := [0, 0, 3, 7, 15, 0, 32, 127, 255]
theorem colonnaderef11_Fit.tab12 : rtab .any (opsOf Tryz.f11 12) = colonnaderef11_Fit.T12 := by kernel_rfl
theorem colonnaderef11_Fit.bits12 : waitsOk colonnaderef11_Fit.T12.2 colonnaderef11_Fit.B12 = true := by kernel_rfl
def colonnaderef11_Fit.T14 : Bool × List (List Nat × List Nat) := (true, [([], []), ([], []), ([0, 1], [0, 1]), ([2], [2]), ([], []), ([4], [4]), ([3, 5], [3, 5]), ([6], [6]), ([7], [7]), ([7], [7]), ([], []), ([10, 8, 6, 0, 1, 2, 3, 4, 5, 6, 7, 8, 10], [8, 10]), ([9, 11, 0, 1, 2, 3, 4, 5, 6, 7, 8, 9, 10, 11], [9])])
def colonnaderef11_Fit.B14 : List Nat := [0, 0, 3, 7, 0, 16, 63, 127, 255, 255, 0, 1535, 4095]
theorem colonnaderef11_Fit.tab14 : rtab .any (opsOf Tryz.f11 14) = colonnaderef11_Fit.T14 := by kernel_rfl
theorem colonnaderef11_Fit.bits14 : waitsOk colonnaderef11_Fit.T14.2 colonnaderef11_Fit.B14 = true := by kernel_rfl
set_option maxHeartbeats 8000000 in
set_option maxRecDepth 100000 in
theorem colonnaderef11_Fit.calls (k : Nat) (a0_0 : ByteArray) (A0_1 : Option Addr) (c0_1 : Nat) (l0_1 : List (S36)) (A1 : Option Addr) (c1 : Nat) (l1 : List (S41)) (r1 : List (S41)) (r2 : Int) (w : World) (hr0_1 : Kd.C k36 w A0_1 l0_1.length l0_1) (hc0_1 : l0_1.length ≤ c0_1) (hr1 : Kd.C k41 w A1 l1.length l1) (hc1 : l1.length ≤ c1) (h : colonnaderef11_Fit.f k a0_0 l0_1 l1 = some (r1, r2)) :
  Calls Tryz.prog 11 #[.agg #[.string a0_0, .slice A0_1 l0_1.length c0_1], .slice A1 l1.length c1] w fun e w' => ∃ v0_ : Value, e = .returned (.tuple #[v0_, .int .i64 r2]) ∧ Kd.R k41 41 w' w.heap.size (fun _ => True) v0_ r1 ∧ Below w.heap.size w w' := by
 have hu24 := Tryz.underlying24
 have hu36 := Tryz.underlying36
 have hu34 := Tryz.underlying34
 have hu41 := Tryz.underlying41
 have HR0_1 := Aside0.mk hr0_1
 have HC0_1 := Aside0.mk hc0_1
 clear hr0_1 hc0_1
 have HR1 := Aside0.mk hr1
 have HC1 := Aside0.mk hc1
 clear hr1 hc1
 have HB := Aside0.mk (Below.refl w.heap.size w)
 have HF_ := Aside0.mk h
 clear h
 go_enter Tryz.func11, Tryz.ntmps11
 go_upto_region 1 with (first | ((with_reducible refine gate_dst (N := 2) rfl ?_); refine box_event ?hg (N := 2) ?hd (cs := #[.string a0_0, .slice A0_1 l0_1.length c0_1]) (t := 24) ?hr ?_; (case hd => rfl); (case hg => rfl); (case hr => first | (go_simp; done) | (go_simp; rfl)); intro gb236 hg w4 hbox hb; have n0_ := Aside0.mk (below_step zF7_21 hb); have n1_ := Aside0.mk (hbox); have n2_ := Aside0.mk ((by rw [hg]; exact (below_size zF7_21) : w.heap.size ≤ gb236)); have n3_ := Aside0.mk ((by rw [hg]; exact (below_size zF7_21) : w.heap.size ≤ gb236)); clear HB; have HB := n0_; have BK236 := n1_; have GW236 := n2_; have GE236 := n3_; clear n0_ n1_ n2_ n3_; clear hb hbox hg; have hcz5_0 : w4.cell? ⟨gb236, 0, none⟩ = some (.string a0_0) := (blk_cell BK236.out 0).trans rfl; have hcz5_1 : w4.cell? ⟨gb236, 1, none⟩ = some (.slice A0_1 l0_1.length c0_1) := (blk_cell BK236.out 1).trans rfl; have hfz5_0 := blk_frozen BK236.out 0; have hfz5_1 := blk_frozen BK236.out 1))
 (try simp only [Act.put, List.setIfInBounds_toArray, List.set_cons_zero, List.set_cons_succ])
 have h := HF_.out
 clear HF_
 have H : (if (l1.length : Int) = (l0_1.length : Int) then (colonnaderef11_Fit.l0 k l1 ([] : List (S41)) 0 a0_0 l0_1) else (some (([] : List (S41)), 113))) = some (r1, r2) := h
 clear h
 by_cases c3 : (l1.length : Int) = (l0_1.length : Int)
 ·rw [if_pos c3] at H
  have c3b0 : ((l1.length : Int) == (l0_1.length : Int)) = true := beq_iff_eq.mpr c3
  have c3b1 : ((l1.length : Int) != (l0_1.length : Int)) = false := bne_eq_false_iff_eq.mpr c3
  have c3b2 : (l1.length == l0_1.length) = true := by first | simpa using c3 | (simp at c3 ⊢; omega)
  clear c3
  have H' := Aside0.mk H
  clear H
  go_wp2
  go_loopg [6, 7] k (fun kq v6 v7 w' => ∃ (x6_1 : List (S41)) (x7_1 : Int), v7 = .int .i64 x7_1 ∧ Aside0 (colonnaderef11_Fit.l0 kq l1 x6_1 x7_1 a0_0 l0_1 = some (r1, r2)) ∧ Aside0 (kq ≤ k) ∧ Aside0 (Kd.R k41 41 w' w.heap.size (fun _ => True) v6 x6_1) ∧ Aside0 (w'.heap[gb236]? = some (.cells #[.string a0_0, (.slice A0_1 l0_1.length c0_1)] 24 (0, 0))) ∧ Aside0 (Below w.heap.size w w'))
  case atStart => exact ⟨(([] : List (S41))), (0), (by first | rfl | (simp; done) | (simp [*]; done)), H', ⟨Nat.le_refl _⟩, ⟨by first | exact Kd.R_nil _ _ _ _ _ | exact Kd.N_nil _ _ _ _ _ | exact Kd.V_nil _ _ _ _ _ | exact Kd.Q_nil _ _ _ _ _ | exact Kd.S_nil _ _ _ _ _⟩, ⟨by (with_reducible repeat (first | refine blk_drewN ?_ _ | refine blk_drew ?_ | refine blk_alloc ?_ _)); exact BK236.out⟩, ⟨by repeat (first | (with_reducible first | exact HB.out | apply below_alloc | apply pw_below_drewN | apply below_drew1 | refine below_set ?_ GE236.out) | exact HB.out)⟩⟩
  case round =>
   clear H'
   (try clear c1); (try clear c3); (try clear c3b0); (try clear c3b1); (try clear c3b2); (try clear hcz5_0); (try clear hcz5_1); (try clear hfz5_0); (try clear hfz5_1)
   obtain ⟨x6_1, x7_1, rfl, HA, HK1, HO_6, BK236, HB⟩ := hrel
   cases gk with
   | zero => exact absurd HA.out (by simp [colonnaderef11_Fit.l0])
   | succ k1 =>
    have H := HA.out
    clear HA
    simp only [colonnaderef11_Fit.l0] at H
    by_cases c6 : x7_1 < (l1.length : Int)
    ·rw [if_pos c6] at H
     have c6b0 : decide (x7_1 < (l1.length : Int)) = true := decide_eq_true c6
     clear c6
     by_cases c7 : 0 ≤ x7_1
     ·rw [if_pos c7] at H
      have c7b0 : decide (0 ≤ x7_1) = true := decide_eq_true c7
      clear c7
      by_cases c8 : x7_1 < (l0_1.length : Int)
      ·rw [if_pos c8] at H
       have c8b0 : decide (x7_1 < (l0_1.length : Int)) = true := decide_eq_true c8
       clear c8
       obtain ⟨bq9, hbq9⟩ : ∃ b_ : Bool, b_ = ((rd_T41 l1 x7_1).f1) := ⟨_, rfl⟩
       replace H : (if bq9 = true then (if (rd_T36 l0_1 x7_1).f2 = true then (some (([] : List (S41)), 112)) else ((colonnaderef02_None.f ((rd_T36 l0_1 x7_1).f1.f0) ((rd_T36 l0_1 x7_1).f1.f1)).bind fun bt240 => (if x6_1.length < 2932031007402 then (colonnaderef11_Fit.l0 k1 l1 (x6_1 ++ [(⟨(⟨bt240.1, bt240.2.1⟩ : S34), bt240.2.2.1, bt240.2.2.2.1, bt240.2.2.2.2⟩ : S41)]) (wrap64 (x7_1 + 1)) a0_0 l0_1) else (none)))) else ((colonnaderef02_Alike.f ((rd_T41 l1 x7_1).f0.f0) ((rd_T41 l1 x7_1).f0.f1) ((rd_T36 l0_1 x7_1).f1.f0) ((rd_T36 l0_1 x7_1).f1.f1)).bind fun t249 => (if t249 = true then ((colonnaderef02_Cast.f k1 ((rd_T41 l1 x7_1).f0.f0) ((rd_T41 l1 x7_1).f0.f1) (bq9) ((rd_T41 l1 x7_1).f2) ((rd_T41 l1 x7_1).f3) ((rd_T36 l0_1 x7_1).f1.f0) ((rd_T36 l0_1 x7_1).f1.f1)).bind fun bt251 => (if bt251.2.2.2.2.2 = 0 then (if x6_1.length < 2932031007402 then (colonnaderef11_Fit.l0 k1 l1 (x6_1 ++ [(⟨(⟨bt251.1, bt251.2.1⟩ : S34), bt251.2.2.1, bt251.2.2.2.1, bt251.2.2.2.2.1⟩ : S41)]) (wrap64 (x7_1 + 1)) a0_0 l0_1) else (none)) else (some (([] : List (S41)), bt251.2.2.2.2.2)))) else (some (([] : List (S41)), 21))))) = some (r1, r2) := by rw [← hbq9] at H; exact H
       have Nbq9 := Aside0.mk hbq9
       clear hbq9
       by_cases c10 : bq9 = true
       ·subst c10
        have H1 : (if (rd_T36 l0_1 x7_1).f2 = true then (some (([] : List (S41)), 112)) else ((colonnaderef02_None.f ((rd_T36 l0_1 x7_1).f1.f0) ((rd_T36 l0_1 x7_1).f1.f1)).bind fun bt240 => (if x6_1.length < 2932031007402 then (colonnaderef11_Fit.l0 k1 l1 (x6_1 ++ [(⟨(⟨bt240.1, bt240.2.1⟩ : S34), bt240.2.2.1, bt240.2.2.2.1, bt240.2.2.2.2⟩ : S41)]) (wrap64 (x7_1 + 1)) a0_0 l0_1) else (none)))) = some (r1, r2) := by rw [if_pos rfl] at H; exact H
        clear H
        have H := H1
        clear H1
        obtain ⟨bq11, hbq11⟩ : ∃ b_ : Bool, b_ = ((rd_T36 l0_1 x7_1).f2) := ⟨_, rfl⟩
        replace H : (if bq11 = true then (some (([] : List (S41)), 112)) else ((colonnaderef02_None.f ((rd_T36 l0_1 x7_1).f1.f0) ((rd_T36 l0_1 x7_1).f1.f1)).bind fun bt240 => (if x6_1.length < 2932031007402 then (colonnaderef11_Fit.l0 k1 l1 (x6_1 ++ [(⟨(⟨bt240.1, bt240.2.1⟩ : S34), bt240.2.2.1, bt240.2.2.2.1, bt240.2.2.2.2⟩ : S41)]) (wrap64 (x7_1 + 1)) a0_0 l0_1) else (none)))) = some (r1, r2) := by rw [← hbq11] at H; exact H
        have Nbq11 := Aside0.mk hbq11
        clear hbq11
        by_cases c12 : bq11 = true
        ·subst c12
         have H1 : (some (([] : List (S41)), 112)) = some (r1, r2) := by rw [if_pos rfl] at H; exact H
         clear H
         have H := H1
         clear H1
         simp only [Option.some.injEq, Prod.mk.injEq] at H
         obtain ⟨rfl, rfl⟩ := H
         have hcz13_0 : wr.cell? ⟨gb236, 0, none⟩ = some (.string a0_0) := (blk_cell BK236.out 0).trans rfl
         have hcz13_1 : wr.cell? ⟨gb236, 1, none⟩ = some (.slice A0_1 l0_1.length c0_1) := (blk_cell BK236.out 1).trans rfl
         have hfz13_0 := blk_frozen BK236.out 0
         have hfz13_1 := blk_frozen BK236.out 1
         have p237 : 0 ≤ (x7_1 : Int) := of_decide_eq_true zF7_11
         have q237 : x7_1 < (l0_1.length : Int) := of_decide_eq_true zF7_11
         obtain ⟨ad237, e237, hx237_0, hx237_1, hx237_2, hx237_3⟩ := at_T36 HR0_1.out x7_1 p237 q237
         (try rw [← Nbq9.out] at hx237_3)
         (try rw [← Nbq11.out] at hx237_3)
         cases e237
         replace hx237_0 := (HB.out.cell (World.block_lt_of_cell? w _ hx237_0)).trans hx237_0
         replace hx237_1 := (HB.out.cell (World.block_lt_of_cell? w _ hx237_1)).trans hx237_1
         replace hx237_2 := (HB.out.cell (World.block_lt_of_cell? w _ hx237_2)).trans hx237_2
         replace hx237_3 := (HB.out.cell (World.block_lt_of_cell? w _ hx237_3)).trans hx237_3
         replace p237 := eq_true p237
         replace q237 := eq_true q237
         go_wp2_with (first | ((with_reducible refine gate_dst (N := 8) rfl ?_); refine box_event ?hg (N := 8) ?hd (cs := #[.string (⟨#[]⟩ : ByteArray), .int .i64 0, .int .i64 0, .bool false]) (t := 36) ?hr ?_; (case hd => rfl); (case hg => rfl); (case hr => first | (go_simp; done) | (go_simp; rfl)); intro gb238 hg w14 hbox hb; have n0_ := Aside0.mk (Kd.R_below zF7_10 hb); have n1_ := Aside0.mk (blk_below (g := gb236) (o := .cells #[.string a0_0, .slice (some ad237) l0_1.length c0_1] 24 (0, 0)) zF7_0 hb); have n2_ := Aside0.mk (below_step zF7_7 hb); have n3_ := Aside0.mk (hbox); have n4_ := Aside0.mk ((zF7_34 : w.heap.size ≤ gb238)); have n5_ := Aside0.mk ((zF7_34 : w.heap.size ≤ gb238)); have n6_ := Aside0.mk ((zF7_30 : gb236 ≠ gb238)); have n7_ := Aside0.mk ((zF7_31 : gb238 ≠ gb236)); clear HO_6; clear BK236; clear HB; have HO_6 := n0_; have BK236 := n1_; have HB := n2_; have BK238 := n3_; have GW238 := n4_; have GE238 := n5_; have NB236_238 := n6_; have NB238_236 := n7_; clear n0_ n1_ n2_ n3_ n4_ n5_ n6_ n7_; clear hb hbox hg; have hnb15 := NB238_236.out; have hnc15 := NB236_238.out; have hcz16_0 : w14.cell? ⟨gb238, 0, none⟩ = some (.string (⟨#[]⟩ : ByteArray)) := (blk_cell BK238.out 0).trans rfl; have hcz16_1 : w14.cell? ⟨gb238, 1, none⟩ = some (.int .i64 0) := (blk_cell BK238.out 1).trans rfl; have hcz16_2 : w14.cell? ⟨gb238, 2, none⟩ = some (.int .i64 0) := (blk_cell BK238.out 2).trans rfl; have hcz16_3 : w14.cell? ⟨gb238, 3, none⟩ = some (.bool false) := (blk_cell BK238.out 3).trans (by first | rfl | (rw [← Nbq11.out]; rfl) | (rw [← Nbq9.out]; rfl)); have hfz16_0 := blk_frozen BK238.out 0; have hfz16_1 := blk_frozen BK238.out 1; have hfz16_2 := blk_frozen BK238.out 2; have hfz16_3 := blk_frozen BK238.out 3; have p239 : 0 ≤ (x7_1 : Int) := of_decide_eq_true zF7_11; have q239 : x7_1 < (l1.length : Int) := of_decide_eq_true zF7_11; obtain ⟨ad239, e239, hx239_0, hx239_1, hx239_2, hx239_3, hx239_4⟩ := at_T41 HR1.out x7_1 p239 q239; (try rw [← Nbq9.out] at hx239_2); (try rw [← Nbq11.out] at hx239_2); cases e239; have hn239_0 : ad239.block ≠ gb238 := Nat.ne_of_lt (Nat.lt_of_lt_of_le (by have := World.block_lt_of_cell? _ _ hx239_0; first | rwa [add_block] at this | exact this) GW238.out); have hn239_1 : ad239.block ≠ gb238 := Nat.ne_of_lt (Nat.lt_of_lt_of_le (by have := World.block_lt_of_cell? _ _ hx239_0; first | rwa [add_block] at this | exact this) GW238.out); have hn239_2 : ad239.block ≠ gb238 := Nat.ne_of_lt (Nat.lt_of_lt_of_le (by have := World.block_lt_of_cell? _ _ hx239_0; first | rwa [add_block] at this | exact this) GW238.out); have hn239_3 : ad239.block ≠ gb238 := Nat.ne_of_lt (Nat.lt_of_lt_of_le (by have := World.block_lt_of_cell? _ _ hx239_0; first | rwa [add_block] at this | exact this) GW238.out); replace hx239_0 := (HB.out.cell (World.block_lt_of_cell? w _ hx239_0)).trans hx239_0; replace hx239_1 := (HB.out.cell (World.block_lt_of_cell? w _ hx239_1)).trans hx239_1; replace hx239_2 := (HB.out.cell (World.block_lt_of_cell? w _ hx239_2)).trans hx239_2; replace hx239_3 := (HB.out.cell (World.block_lt_of_cell? w _ hx239_3)).trans hx239_3; replace hx239_4 := (HB.out.cell (World.block_lt_of_cell? w _ hx239_4)).trans hx239_4; replace hx239_0 := (cell_far (p := ⟨gb238, 0, none⟩) zF7_2 (.string ((rd_T36 l0_1 x7_1).f0))).trans hx239_0; replace hx239_1 := (cell_far (p := ⟨gb238, 0, none⟩) zF7_2 (.string ((rd_T36 l0_1 x7_1).f0))).trans hx239_1; replace hx239_2 := (cell_far (p := ⟨gb238, 0, none⟩) zF7_2 (.string ((rd_T36 l0_1 x7_1).f0))).trans hx239_2; replace hx239_3 := (cell_far (p := ⟨gb238, 0, none⟩) zF7_2 (.string ((rd_T36 l0_1 x7_1).f0))).trans hx239_3; replace hx239_4 := (cell_far (p := ⟨gb238, 0, none⟩) zF7_2 (.string ((rd_T36 l0_1 x7_1).f0))).trans hx239_4; replace hx239_0 := (cell_far (p := ⟨gb238, 1, none⟩) zF7_3 (.int .i64 ((rd_T36 l0_1 x7_1).f1.f0))).trans hx239_0; replace hx239_1 := (cell_far (p := ⟨gb238, 1, none⟩) zF7_3 (.int .i64 ((rd_T36 l0_1 x7_1).f1.f0))).trans hx239_1; replace hx239_2 := (cell_far (p := ⟨gb238, 1, none⟩) zF7_3 (.int .i64 ((rd_T36 l0_1 x7_1).f1.f0))).trans hx239_2; replace hx239_3 := (cell_far (p := ⟨gb238, 1, none⟩) zF7_3 (.int .i64 ((rd_T36 l0_1 x7_1).f1.f0))).trans hx239_3; replace hx239_4 := (cell_far (p := ⟨gb238, 1, none⟩) zF7_3 (.int .i64 ((rd_T36 l0_1 x7_1).f1.f0))).trans hx239_4; replace hx239_0 := (cell_far (p := ⟨gb238, 2, none⟩) zF7_4 (.int .i64 ((rd_T36 l0_1 x7_1).f1.f1))).trans hx239_0; replace hx239_1 := (cell_far (p := ⟨gb238, 2, none⟩) zF7_4 (.int .i64 ((rd_T36 l0_1 x7_1).f1.f1))).trans hx239_1; replace hx239_2 := (cell_far (p := ⟨gb238, 2, none⟩) zF7_4 (.int .i64 ((rd_T36 l0_1 x7_1).f1.f1))).trans hx239_2; replace hx239_3 := (cell_far (p := ⟨gb238, 2, none⟩) zF7_4 (.int .i64 ((rd_T36 l0_1 x7_1).f1.f1))).trans hx239_3; replace hx239_4 := (cell_far (p := ⟨gb238, 2, none⟩) zF7_4 (.int .i64 ((rd_T36 l0_1 x7_1).f1.f1))).trans hx239_4; replace hx239_0 := (cell_far (p := ⟨gb238, 3, none⟩) zF7_5 (.bool true)).trans hx239_0; replace hx239_1 := (cell_far (p := ⟨gb238, 3, none⟩) zF7_5 (.bool true)).trans hx239_1; replace hx239_2 := (cell_far (p := ⟨gb238, 3, none⟩) zF7_5 (.bool true)).trans hx239_2; replace hx239_3 := (cell_far (p := ⟨gb238, 3, none⟩) zF7_5 (.bool true)).trans hx239_3; replace hx239_4 := (cell_far (p := ⟨gb238, 3, none⟩) zF7_5 (.bool true)).trans hx239_4; clear hn239_0; clear hn239_1; clear hn239_2; clear hn239_3; replace p239 := eq_true p239; replace q239 := eq_true q239))
         go_ret2
         exact ⟨_, by first | rfl | (simp [errW_none, errW_some] <;> rfl) | (simp [*, errW_none, errW_some] <;> rfl), by first | exact Kd.R_nil _ _ _ _ _ | exact Kd.N_nil _ _ _ _ _ | exact Kd.V_nil _ _ _ _ _ | exact Kd.Q_nil _ _ _ _ _ | exact Kd.S_nil _ _ _ _ _, by repeat (first | (with_reducible first | exact HB.out | apply below_alloc | apply pw_below_drewN | apply below_drew1 | refine below_set ?_ GE236.out | refine below_set ?_ GE238.out) | exact HB.out)⟩
        ·replace c12 := Bool.eq_false_iff.mpr c12
         subst c12
         have H1 : ((colonnaderef02_None.f ((rd_T36 l0_1 x7_1).f1.f0) ((rd_T36 l0_1 x7_1).f1.f1)).bind fun bt240 => (if x6_1.length < 2932031007402 then (colonnaderef11_Fit.l0 k1 l1 (x6_1 ++ [(⟨(⟨bt240.1, bt240.2.1⟩ : S34), bt240.2.2.1, bt240.2.2.2.1, bt240.2.2.2.2⟩ : S41)]) (wrap64 (x7_1 + 1)) a0_0 l0_1) else (none))) = some (r1, r2) := by rw [if_neg (show ¬ (false = true) by decide)] at H; exact H
         clear H
         have H := H1
         clear H1
         replace H := Option.bind_eq_some_iff.mp H
         obtain ⟨⟨t240, t241, t242, t243, t244⟩, A170, H⟩ := H
         replace H : (if x6_1.length < 2932031007402 then (colonnaderef11_Fit.l0 k1 l1 (x6_1 ++ [(⟨(⟨t240, t241⟩ : S34), t242, t243, t244⟩ : S41)]) (wrap64 (x7_1 + 1)) a0_0 l0_1) else (none)) = some (r1, r2) := H
         have A17 := Aside0.mk A170
         clear A170
         by_cases c18 : x6_1.length < 2932031007402
         ·rw [if_pos c18] at H
          have LMc18 := Aside0.mk c18
          clear c18
          obtain ⟨y245, hy245⟩ : ∃ y_ : List (S41), y_ = (x6_1 ++ [(⟨(⟨t240, t241⟩ : S34), t242, t243, t244⟩ : S41)]) := ⟨_, rfl⟩
          replace H : (colonnaderef11_Fit.l0 k1 l1 y245 (wrap64 (x7_1 + 1)) a0_0 l0_1) = some (r1, r2) := by first | (rw [hy245]; with_reducible exact H) | (have H2_ := (Option.bind_some _ _).symm.trans H; rw [hy245]; with_reducible exact H2_) | (have H2_ := (Option.bind_some _ _).symm.trans H; with_reducible exact H2_) | with_reducible exact H | (rw [hy245]; exact H) | exact H
          have Ny245 := Aside0.mk hy245
          clear hy245
          have H' := Aside0.mk H
          clear H
          have hcz19_0 : wr.cell? ⟨gb236, 0, none⟩ = some (.string a0_0) := (blk_cell BK236.out 0).trans rfl
          have hcz19_1 : wr.cell? ⟨gb236, 1, none⟩ = some (.slice A0_1 l0_1.length c0_1) := (blk_cell BK236.out 1).trans rfl
          have hfz19_0 := blk_frozen BK236.out 0
          have hfz19_1 := blk_frozen BK236.out 1
          have p237 : 0 ≤ (x7_1 : Int) := of_decide_eq_true zF7_11
          have q237 : x7_1 < (l0_1.length : Int) := of_decide_eq_true zF7_11
          obtain ⟨ad237, e237, hx237_0, hx237_1, hx237_2, hx237_3⟩ := at_T36 HR0_1.out x7_1 p237 q237
          (try rw [← Nbq9.out] at hx237_3)
          (try rw [← Nbq11.out] at hx237_3)
          cases e237
          replace hx237_0 := (HB.out.cell (World.block_lt_of_cell? w _ hx237_0)).trans hx237_0
          replace hx237_1 := (HB.out.cell (World.block_lt_of_cell? w _ hx237_1)).trans hx237_1
          replace hx237_2 := (HB.out.cell (World.block_lt_of_cell? w _ hx237_2)).trans hx237_2
          replace hx237_3 := (HB.out.cell (World.block_lt_of_cell? w _ hx237_3)).trans hx237_3
          replace p237 := eq_true p237
          replace q237 := eq_true q237
          go_wp2_with (first | ((with_reducible refine gate_dst (N := 8) rfl ?_); refine box_event ?hg (N := 8) ?hd (cs := #[.string (⟨#[]⟩ : ByteArray), .int .i64 0, .int .i64 0, .bool false]) (t := 36) ?hr ?_; (case hd => rfl); (case hg => rfl); (case hr => first | (go_simp; done) | (go_simp; rfl)); intro gb238 hg w20 hbox hb; have n0_ := Aside0.mk (Kd.R_below zF7_10 hb); have n1_ := Aside0.mk (blk_below (g := gb236) (o := .cells #[.string a0_0, .slice (some ad237) l0_1.length c0_1] 24 (0, 0)) zF7_0 hb); have n2_ := Aside0.mk (below_step zF7_7 hb); have n3_ := Aside0.mk (hbox); have n4_ := Aside0.mk ((zF7_34 : w.heap.size ≤ gb238)); have n5_ := Aside0.mk ((zF7_34 : w.heap.size ≤ gb238)); have n6_ := Aside0.mk ((zF7_30 : gb236 ≠ gb238)); have n7_ := Aside0.mk ((zF7_31 : gb238 ≠ gb236)); clear HO_6; clear BK236; clear HB; have HO_6 := n0_; have BK236 := n1_; have HB := n2_; have BK238 := n3_; have GW238 := n4_; have GE238 := n5_; have NB236_238 := n6_; have NB238_236 := n7_; clear n0_ n1_ n2_ n3_ n4_ n5_ n6_ n7_; clear hb hbox hg; have hnb21 := NB238_236.out; have hnc21 := NB236_238.out; have hcz22_0 : w20.cell? ⟨gb238, 0, none⟩ = some (.string (⟨#[]⟩ : ByteArray)) := (blk_cell BK238.out 0).trans rfl; have hcz22_1 : w20.cell? ⟨gb238, 1, none⟩ = some (.int .i64 0) := (blk_cell BK238.out 1).trans rfl; have hcz22_2 : w20.cell? ⟨gb238, 2, none⟩ = some (.int .i64 0) := (blk_cell BK238.out 2).trans rfl; have hcz22_3 : w20.cell? ⟨gb238, 3, none⟩ = some (.bool false) := (blk_cell BK238.out 3).trans (by first | rfl | (rw [← Nbq11.out]; rfl) | (rw [← Nbq9.out]; rfl)); have hfz22_0 := blk_frozen BK238.out 0; have hfz22_1 := blk_frozen BK238.out 1; have hfz22_2 := blk_frozen BK238.out 2; have hfz22_3 := blk_frozen BK238.out 3; have p239 : 0 ≤ (x7_1 : Int) := of_decide_eq_true zF7_11; have q239 : x7_1 < (l1.length : Int) := of_decide_eq_true zF7_11; obtain ⟨ad239, e239, hx239_0, hx239_1, hx239_2, hx239_3, hx239_4⟩ := at_T41 HR1.out x7_1 p239 q239; (try rw [← Nbq9.out] at hx239_2); (try rw [← Nbq11.out] at hx239_2); cases e239; have hn239_0 : ad239.block ≠ gb238 := Nat.ne_of_lt (Nat.lt_of_lt_of_le (by have := World.block_lt_of_cell? _ _ hx239_0; first | rwa [add_block] at this | exact this) GW238.out); have hn239_1 : ad239.block ≠ gb238 := Nat.ne_of_lt (Nat.lt_of_lt_of_le (by have := World.block_lt_of_cell? _ _ hx239_0; first | rwa [add_block] at this | exact this) GW238.out); have hn239_2 : ad239.block ≠ gb238 := Nat.ne_of_lt (Nat.lt_of_lt_of_le (by have := World.block_lt_of_cell? _ _ hx239_0; first | rwa [add_block] at this | exact this) GW238.out); have hn239_3 : ad239.block ≠ gb238 := Nat.ne_of_lt (Nat.lt_of_lt_of_le (by have := World.block_lt_of_cell? _ _ hx239_0; first | rwa [add_block] at this | exact this) GW238.out); replace hx239_0 := (HB.out.cell (World.block_lt_of_cell? w _ hx239_0)).trans hx239_0; replace hx239_1 := (HB.out.cell (World.block_lt_of_cell? w _ hx239_1)).trans hx239_1; replace hx239_2 := (HB.out.cell (World.block_lt_of_cell? w _ hx239_2)).trans hx239_2; replace hx239_3 := (HB.out.cell (World.block_lt_of_cell? w _ hx239_3)).trans hx239_3; replace hx239_4 := (HB.out.cell (World.block_lt_of_cell? w _ hx239_4)).trans hx239_4; replace hx239_0 := (cell_far (p := ⟨gb238, 0, none⟩) zF7_2 (.string ((rd_T36 l0_1 x7_1).f0))).trans hx239_0; replace hx239_1 := (cell_far (p := ⟨gb238, 0, none⟩) zF7_2 (.string ((rd_T36 l0_1 x7_1).f0))).trans hx239_1; replace hx239_2 := (cell_far (p := ⟨gb238, 0, none⟩) zF7_2 (.string ((rd_T36 l0_1 x7_1).f0))).trans hx239_2; replace hx239_3 := (cell_far (p := ⟨gb238, 0, none⟩) zF7_2 (.string ((rd_T36 l0_1 x7_1).f0))).trans hx239_3; replace hx239_4 := (cell_far (p := ⟨gb238, 0, none⟩) zF7_2 (.string ((rd_T36 l0_1 x7_1).f0))).trans hx239_4; replace hx239_0 := (cell_far (p := ⟨gb238, 1, none⟩) zF7_3 (.int .i64 ((rd_T36 l0_1 x7_1).f1.f0))).trans hx239_0; replace hx239_1 := (cell_far (p := ⟨gb238, 1, none⟩) zF7_3 (.int .i64 ((rd_T36 l0_1 x7_1).f1.f0))).trans hx239_1; replace hx239_2 := (cell_far (p := ⟨gb238, 1, none⟩) zF7_3 (.int .i64 ((rd_T36 l0_1 x7_1).f1.f0))).trans hx239_2; replace hx239_3 := (cell_far (p := ⟨gb238, 1, none⟩) zF7_3 (.int .i64 ((rd_T36 l0_1 x7_1).f1.f0))).trans hx239_3; replace hx239_4 := (cell_far (p := ⟨gb238, 1, none⟩) zF7_3 (.int .i64 ((rd_T36 l0_1 x7_1).f1.f0))).trans hx239_4; replace hx239_0 := (cell_far (p := ⟨gb238, 2, none⟩) zF7_4 (.int .i64 ((rd_T36 l0_1 x7_1).f1.f1))).trans hx239_0; replace hx239_1 := (cell_far (p := ⟨gb238, 2, none⟩) zF7_4 (.int .i64 ((rd_T36 l0_1 x7_1).f1.f1))).trans hx239_1; replace hx239_2 := (cell_far (p := ⟨gb238, 2, none⟩) zF7_4 (.int .i64 ((rd_T36 l0_1 x7_1).f1.f1))).trans hx239_2; replace hx239_3 := (cell_far (p := ⟨gb238, 2, none⟩) zF7_4 (.int .i64 ((rd_T36 l0_1 x7_1).f1.f1))).trans hx239_3; replace hx239_4 := (cell_far (p := ⟨gb238, 2, none⟩) zF7_4 (.int .i64 ((rd_T36 l0_1 x7_1).f1.f1))).trans hx239_4; replace hx239_0 := (cell_far (p := ⟨gb238, 3, none⟩) zF7_5 (.bool false)).trans hx239_0; replace hx239_1 := (cell_far (p := ⟨gb238, 3, none⟩) zF7_5 (.bool false)).trans hx239_1; replace hx239_2 := (cell_far (p := ⟨gb238, 3, none⟩) zF7_5 (.bool false)).trans hx239_2; replace hx239_3 := (cell_far (p := ⟨gb238, 3, none⟩) zF7_5 (.bool false)).trans hx239_3; replace hx239_4 := (cell_far (p := ⟨gb238, 3, none⟩) zF7_5 (.bool false)).trans hx239_4; clear hn239_0; clear hn239_1; clear hn239_2; clear hn239_3; replace p239 := eq_true p239; replace q239 := eq_true q239) | ((with_reducible refine gate_callee (f := 44) rfl ?_); refine goesL_ (some 38) rfl rfl Tryz.func44 zF7_12 rfl #[.agg #[.int .i64 ((rd_T36 l0_1 x7_1).f1.f0), .int .i64 ((rd_T36 l0_1 x7_1).f1.f1)]] rfl zF7_13 ?_; (with_reducible refine (colonnaderef02_None.calls ((rd_T36 l0_1 x7_1).f1.f0) ((rd_T36 l0_1 x7_1).f1.f1) t240 t241 t242 t243 t244 _ A17.out).mono ?_); rintro e w23 ⟨rfl, hb⟩; refine ⟨_, rfl, ?_⟩; have n0_ := Aside0.mk (Kd.R_below (by (with_reducible repeat (first | apply Kd.R_alloc | apply Kd.R_drewN | apply Kd.R_drew)); exact (Kd.R_mono (Kd.R_far (p := ⟨gb238, 3, none⟩) (Kd.R_far (p := ⟨gb238, 2, none⟩) (Kd.R_far (p := ⟨gb238, 1, none⟩) (Kd.R_far (p := ⟨gb238, 0, none⟩) (Kd.R_types HO_6.out BK238.out zF7_28) (fun _ hk => hk.2) (.string ((rd_T36 l0_1 x7_1).f0))) (fun _ hk => hk.2) (.int .i64 ((rd_T36 l0_1 x7_1).f1.f0))) (fun _ hk => hk.2) (.int .i64 ((rd_T36 l0_1 x7_1).f1.f1))) (fun _ hk => hk.2) (.bool false)) (fun _ h_ => h_.1))) hb); have n1_ := Aside0.mk (blk_below (g := gb236) (o := .cells #[.string a0_0, .slice (some ad237) l0_1.length c0_1] 24 (0, 0)) (by (with_reducible repeat (first | refine blk_drewN ?_ _ | refine blk_drew ?_ | refine blk_alloc ?_ _)); refine blk_far ?_ NB236_238.out _; (with_reducible repeat (first | refine blk_drewN ?_ _ | refine blk_drew ?_ | refine blk_alloc ?_ _)); refine blk_far ?_ NB236_238.out _; (with_reducible repeat (first | refine blk_drewN ?_ _ | refine blk_drew ?_ | refine blk_alloc ?_ _)); refine blk_far ?_ NB236_238.out _; (with_reducible repeat (first | refine blk_drewN ?_ _ | refine blk_drew ?_ | refine blk_alloc ?_ _)); refine blk_far ?_ NB236_238.out _; (with_reducible repeat (first | refine blk_drewN ?_ _ | refine blk_drew ?_ | refine blk_alloc ?_ _)); exact BK236.out) hb); have n2_ := Aside0.mk (blk_below (g := gb238) (o := .cells #[.string ((rd_T36 l0_1 x7_1).f0), .int .i64 ((rd_T36 l0_1 x7_1).f1.f0), .int .i64 ((rd_T36 l0_1 x7_1).f1.f1), .bool false] 36 (0, 0)) (by (with_reducible repeat (first | refine blk_drewN ?_ _ | refine blk_drew ?_ | refine blk_alloc ?_ _)); refine blk_put (cs := #[.string ((rd_T36 l0_1 x7_1).f0), .int .i64 ((rd_T36 l0_1 x7_1).f1.f0), .int .i64 ((rd_T36 l0_1 x7_1).f1.f1), .bool false]) ?_ 3 _ rfl; (with_reducible repeat (first | refine blk_drewN ?_ _ | refine blk_drew ?_ | refine blk_alloc ?_ _)); refine blk_put (cs := #[.string ((rd_T36 l0_1 x7_1).f0), .int .i64 ((rd_T36 l0_1 x7_1).f1.f0), .int .i64 0, .bool false]) ?_ 2 _ rfl; (with_reducible repeat (first | refine blk_drewN ?_ _ | refine blk_drew ?_ | refine blk_alloc ?_ _)); refine blk_put (cs := #[.string ((rd_T36 l0_1 x7_1).f0), .int .i64 0, .int .i64 0, .bool false]) ?_ 1 _ rfl; (with_reducible repeat (first | refine blk_drewN ?_ _ | refine blk_drew ?_ | refine blk_alloc ?_ _)); refine blk_put (cs := #[.string (⟨#[]⟩ : ByteArray), .int .i64 0, .int .i64 0, .bool false]) ?_ 0 _ rfl; (with_reducible repeat (first | refine blk_drewN ?_ _ | refine blk_drew ?_ | refine blk_alloc ?_ _)); exact BK238.out) hb); have n3_ := Aside0.mk (below_step zF7_1 hb); clear HO_6; clear BK236; clear BK238; clear HB; have HO_6 := n0_; have BK236 := n1_; have BK238 := n2_; have HB := n3_; clear n0_ n1_ n2_ n3_; (try clear hb); (try clear hb2); (try clear hk); (try clear hi)) | ((with_reducible refine gate_builtin (b := .append) (xs := #[.tmp 35, .tmp 39]) rfl ?_); at_builtin; refine Kd.R_append k41 (w0 := w) w.heap.size rfl (.tmp 35) (.tmp 39) 25 41 (.agg #[(.int .i64 0), (.int .i64 0), (.bool false), (.int .i64 0), (.string ⟨#[]⟩)]) 48 rfl Tryz.underlying25 info41 rfl zF7_28 (by omega) u6 x6_1 (⟨(⟨t240, t241⟩ : S34), t242, t243, t244⟩ : S41) [.int .i64 t240, .int .i64 t241, .bool t242, .int .i64 t243, .string t244] (fun _ => True) (fun _ => False) rfl rfl ?aP (fun _ hk => hk.elim) ?aF ?aO ?aB ?aS ?aL ?_; (case aP => exact k41_mkM _ _ _ (⟨(⟨t240, t241⟩ : S34), t242, t243, t244⟩ : S41)); (case aB => exact zF7_1); (case aF => exact (fun _ _ => trivial)); (case aO => exact zF7_10); (case aS => exact (below_size zF7_1)); (case aL => have := LMc18.out; omega); intro v246 w24 ho hb hg hat; rw [← Ny245.out] at ho; have n0_ := Aside0.mk (blk_grown (g := gb236) (o := .cells #[.string a0_0, .slice (some ad237) l0_1.length c0_1] 24 (0, 0)) zF7_0 hg (Kd.R_ne HO_6.out BK236.out zF7_28)); have n1_ := Aside0.mk (blk_grown (g := gb238) (o := .cells #[.string ((rd_T36 l0_1 x7_1).f0), .int .i64 ((rd_T36 l0_1 x7_1).f1.f0), .int .i64 ((rd_T36 l0_1 x7_1).f1.f1), .bool false] 36 (0, 0)) zF7_6 hg (Kd.R_ne HO_6.out BK238.out zF7_28)); have n2_ := Aside0.mk (hb); have n3_ := Aside0.mk (ho); clear BK236; clear BK238; clear HB; clear HO_6; have BK236 := n0_; have BK238 := n1_; have HB := n2_; have HO247 := n3_; clear n0_ n1_ n2_ n3_; clear ho hb hg hat))
          go_roundg k1
          case measure => have := HK1.out; omega
          case rel => exact ⟨(y245), (wrap64 (x7_1 + 1)), (by first | rfl | (simp; done) | (simp [*]; done)), (by first | exact H' | (rw [← Nbq11.out]; exact H') | (rw [← Nbq9.out]; exact H')), ⟨by have := HK1.out; omega⟩, ⟨by (with_reducible repeat (first | apply Kd.R_alloc | apply Kd.R_drewN | apply Kd.R_drew)); exact HO247.out⟩, ⟨by (with_reducible repeat (first | refine blk_drewN ?_ _ | refine blk_drew ?_ | refine blk_alloc ?_ _)); exact BK236.out⟩, ⟨by repeat (first | (with_reducible first | exact HB.out | apply below_alloc | apply pw_below_drewN | apply below_drew1 | refine below_set ?_ GE236.out | refine below_set ?_ GE238.out) | exact HB.out)⟩⟩
         ·rw [if_neg c18] at H
          exact absurd H (by simp)
       ·replace c10 := Bool.eq_false_iff.mpr c10
        subst c10
        have H1 : ((colonnaderef02_Alike.f ((rd_T41 l1 x7_1).f0.f0) ((rd_T41 l1 x7_1).f0.f1) ((rd_T36 l0_1 x7_1).f1.f0) ((rd_T36 l0_1 x7_1).f1.f1)).bind fun t249 => (if t249 = true then ((colonnaderef02_Cast.f k1 ((rd_T41 l1 x7_1).f0.f0) ((rd_T41 l1 x7_1).f0.f1) (false) ((rd_T41 l1 x7_1).f2) ((rd_T41 l1 x7_1).f3) ((rd_T36 l0_1 x7_1).f1.f0) ((rd_T36 l0_1 x7_1).f1.f1)).bind fun bt251 => (if bt251.2.2.2.2.2 = 0 then (if x6_1.length < 2932031007402 then (colonnaderef11_Fit.l0 k1 l1 (x6_1 ++ [(⟨(⟨bt251.1, bt251.2.1⟩ : S34), bt251.2.2.1, bt251.2.2.2.1, bt251.2.2.2.2.1⟩ : S41)]) (wrap64 (x7_1 + 1)) a0_0 l0_1) else (none)) else (some (([] : List (S41)), bt251.2.2.2.2.2)))) else (some (([] : List (S41)), 21)))) = some (r1, r2) := by rw [if_neg (show ¬ (false = true) by decide)] at H; exact H
        clear H
        have H := H1
        clear H1
        replace H := Option.bind_eq_some_iff.mp H
        obtain ⟨t249, A250, H⟩ := H
        replace H : (if t249 = true then ((colonnaderef02_Cast.f k1 ((rd_T41 l1 x7_1).f0.f0) ((rd_T41 l1 x7_1).f0.f1) (false) ((rd_T41 l1 x7_1).f2) ((rd_T41 l1 x7_1).f3) ((rd_T36 l0_1 x7_1).f1.f0) ((rd_T36 l0_1 x7_1).f1.f1)).bind fun bt251 => (if bt251.2.2.2.2.2 = 0 then (if x6_1.length < 2932031007402 then (colonnaderef11_Fit.l0 k1 l1 (x6_1 ++ [(⟨(⟨bt251.1, bt251.2.1⟩ : S34), bt251.2.2.1, bt251.2.2.2.1, bt251.2.2.2.2.1⟩ : S41)]) (wrap64 (x7_1 + 1)) a0_0 l0_1) else (none)) else (some (([] : List (S41)), bt251.2.2.2.2.2)))) else (some (([] : List (S41)), 21))) = some (r1, r2) := H
        have A25 := Aside0.mk A250
        clear A250
        by_cases c26 : t249 = true
        ·subst c26
         have H1 : ((colonnaderef02_Cast.f k1 ((rd_T41 l1 x7_1).f0.f0) ((rd_T41 l1 x7_1).f0.f1) (false) ((rd_T41 l1 x7_1).f2) ((rd_T41 l1 x7_1).f3) ((rd_T36 l0_1 x7_1).f1.f0) ((rd_T36 l0_1 x7_1).f1.f1)).bind fun bt251 => (if bt251.2.2.2.2.2 = 0 then (if x6_1.length < 2932031007402 then (colonnaderef11_Fit.l0 k1 l1 (x6_1 ++ [(⟨(⟨bt251.1, bt251.2.1⟩ : S34), bt251.2.2.1, bt251.2.2.2.1, bt251.2.2.2.2.1⟩ : S41)]) (wrap64 (x7_1 + 1)) a0_0 l0_1) else (none)) else (some (([] : List (S41)), bt251.2.2.2.2.2)))) = some (r1, r2) := by rw [if_pos rfl] at H; exact H
         clear H
         have H := H1
         clear H1
         replace H := Option.bind_eq_some_iff.mp H
         obtain ⟨⟨t251, t252, t253, t254, t255, t256⟩, A270, H⟩ := H
         replace H : (if t256 = 0 then (if x6_1.length < 2932031007402 then (colonnaderef11_Fit.l0 k1 l1 (x6_1 ++ [(⟨(⟨t251, t252⟩ : S34), t253, t254, t255⟩ : S41)]) (wrap64 (x7_1 + 1)) a0_0 l0_1) else (none)) else (some (([] : List (S41)), t256))) = some (r1, r2) := H
         have A27 := Aside0.mk A270
         clear A270
         by_cases c28 : t256 = 0
         ·rw [if_pos c28] at H
          have c28b0 : (t256 == 0) = true := beq_iff_eq.mpr c28
          have c28b1 : (t256 != 0) = false := bne_eq_false_iff_eq.mpr c28
          clear c28
          by_cases c29 : x6_1.length < 2932031007402
          ·rw [if_pos c29] at H
           have LMc29 := Aside0.mk c29
           clear c29
           obtain ⟨y258, hy258⟩ : ∃ y_ : List (S41), y_ = (x6_1 ++ [(⟨(⟨t251, t252⟩ : S34), t253, t254, t255⟩ : S41)]) := ⟨_, rfl⟩
           replace H : (colonnaderef11_Fit.l0 k1 l1 y258 (wrap64 (x7_1 + 1)) a0_0 l0_1) = some (r1, r2) := by first | (rw [hy258]; with_reducible exact H) | (have H2_ := (Option.bind_some _ _).symm.trans H; rw [hy258]; with_reducible exact H2_) | (have H2_ := (Option.bind_some _ _).symm.trans H; with_reducible exact H2_) | with_reducible exact H | (rw [hy258]; exact H) | exact H
           have Ny258 := Aside0.mk hy258
           clear hy258
           have H' := Aside0.mk H
           clear H
           have hcz30_0 : wr.cell? ⟨gb236, 0, none⟩ = some (.string a0_0) := (blk_cell BK236.out 0).trans rfl
           have hcz30_1 : wr.cell? ⟨gb236, 1, none⟩ = some (.slice A0_1 l0_1.length c0_1) := (blk_cell BK236.out 1).trans rfl
           have hfz30_0 := blk_frozen BK236.out 0
           have hfz30_1 := blk_frozen BK236.out 1
           have p237 : 0 ≤ (x7_1 : Int) := of_decide_eq_true zF7_11
           have q237 : x7_1 < (l0_1.length : Int) := of_decide_eq_true zF7_11
           obtain ⟨ad237, e237, hx237_0, hx237_1, hx237_2, hx237_3⟩ := at_T36 HR0_1.out x7_1 p237 q237
           (try rw [← Nbq9.out] at hx237_3)
           cases e237
           replace hx237_0 := (HB.out.cell (World.block_lt_of_cell? w _ hx237_0)).trans hx237_0
           replace hx237_1 := (HB.out.cell (World.block_lt_of_cell? w _ hx237_1)).trans hx237_1
           replace hx237_2 := (HB.out.cell (World.block_lt_of_cell? w _ hx237_2)).trans hx237_2
           replace hx237_3 := (HB.out.cell (World.block_lt_of_cell? w _ hx237_3)).trans hx237_3
           replace p237 := eq_true p237
           replace q237 := eq_true q237
           try go_wp2_with (first | ((with_reducible refine gate_dst (N := 8) rfl ?_); refine box_event ?hg (N := 8) ?hd (cs := #[.string (⟨#[]⟩ : ByteArray), .int .i64 0, .int .i64 0, .bool false]) (t := 36) ?hr ?_; (case hd => rfl); (case hg => rfl); (case hr => first | (go_simp; done) | (go_simp; rfl)); intro gb238 hg w31 hbox hb; have n0_ := Aside0.mk (Kd.R_below zF7_10 hb); have n1_ := Aside0.mk (blk_below (g := gb236) (o := .cells #[.string a0_0, .slice (some ad237) l0_1.length c0_1] 24 (0, 0)) zF7_0 hb); have n2_ := Aside0.mk (below_step zF7_7 hb); have n3_ := Aside0.mk (hbox); have n4_ := Aside0.mk ((zF7_34 : w.heap.size ≤ gb238)); have n5_ := Aside0.mk ((zF7_34 : w.heap.size ≤ gb238)); have n6_ := Aside0.mk ((zF7_30 : gb236 ≠ gb238)); have n7_ := Aside0.mk ((zF7_31 : gb238 ≠ gb236)); clear HO_6; clear BK236; clear HB; have HO_6 := n0_; have BK236 := n1_; have HB := n2_; have BK238 := n3_; have GW238 := n4_; have GE238 := n5_; have NB236_238 := n6_; have NB238_236 := n7_; clear n0_ n1_ n2_ n3_ n4_ n5_ n6_ n7_; clear hb hbox hg; have hnb32 := NB238_236.out; have hnc32 := NB236_238.out; have hcz33_0 : w31.cell? ⟨gb238, 0, none⟩ = some (.string (⟨#[]⟩ : ByteArray)) := (blk_cell BK238.out 0).trans rfl; have hcz33_1 : w31.cell? ⟨gb238, 1, none⟩ = some (.int .i64 0) := (blk_cell BK238.out 1).trans rfl; have hcz33_2 : w31.cell? ⟨gb238, 2, none⟩ = some (.int .i64 0) := (blk_cell BK238.out 2).trans rfl; have hcz33_3 : w31.cell? ⟨gb238, 3, none⟩ = some (.bool false) := (blk_cell BK238.out 3).trans zF7_29; have hfz33_0 := blk_frozen BK238.out 0; have hfz33_1 := blk_frozen BK238.out 1; have hfz33_2 := blk_frozen BK238.out 2; have hfz33_3 := blk_frozen BK238.out 3; have p239 : 0 ≤ (x7_1 : Int) := of_decide_eq_true zF7_11; have q239 : x7_1 < (l1.length : Int) := of_decide_eq_true zF7_11; obtain ⟨ad239, e239, hx239_0, hx239_1, hx239_2, hx239_3, hx239_4⟩ := at_T41 HR1.out x7_1 p239 q239; (try rw [← Nbq9.out] at hx239_2); cases e239; have hn239_0 : ad239.block ≠ gb238 := Nat.ne_of_lt (Nat.lt_of_lt_of_le (by have := World.block_lt_of_cell? _ _ hx239_0; first | rwa [add_block] at this | exact this) GW238.out); have hn239_1 : ad239.block ≠ gb238 := Nat.ne_of_lt (Nat.lt_of_lt_of_le (by have := World.block_lt_of_cell? _ _ hx239_0; first | rwa [add_block] at this | exact this) GW238.out); have hn239_2 : ad239.block ≠ gb238 := Nat.ne_of_lt (Nat.lt_of_lt_of_le (by have := World.block_lt_of_cell? _ _ hx239_0; first | rwa [add_block] at this | exact this) GW238.out); have hn239_3 : ad239.block ≠ gb238 := Nat.ne_of_lt (Nat.lt_of_lt_of_le (by have := World.block_lt_of_cell? _ _ hx239_0; first | rwa [add_block] at this | exact this) GW238.out); replace hx239_0 := (HB.out.cell (World.block_lt_of_cell? w _ hx239_0)).trans hx239_0; replace hx239_1 := (HB.out.cell (World.block_lt_of_cell? w _ hx239_1)).trans hx239_1; replace hx239_2 := (HB.out.cell (World.block_lt_of_cell? w _ hx239_2)).trans hx239_2; replace hx239_3 := (HB.out.cell (World.block_lt_of_cell? w _ hx239_3)).trans hx239_3; replace hx239_4 := (HB.out.cell (World.block_lt_of_cell? w _ hx239_4)).trans hx239_4; replace hx239_0 := (cell_far (p := ⟨gb238, 0, none⟩) zF7_2 (.string ((rd_T36 l0_1 x7_1).f0))).trans hx239_0; replace hx239_1 := (cell_far (p := ⟨gb238, 0, none⟩) zF7_2 (.string ((rd_T36 l0_1 x7_1).f0))).trans hx239_1; replace hx239_2 := (cell_far (p := ⟨gb238, 0, none⟩) zF7_2 (.string ((rd_T36 l0_1 x7_1).f0))).trans hx239_2; replace hx239_3 := (cell_far (p := ⟨gb238, 0, none⟩) zF7_2 (.string ((rd_T36 l0_1 x7_1).f0))).trans hx239_3; replace hx239_4 := (cell_far (p := ⟨gb238, 0, none⟩) zF7_2 (.string ((rd_T36 l0_1 x7_1).f0))).trans hx239_4; replace hx239_0 := (cell_far (p := ⟨gb238, 1, none⟩) zF7_3 (.int .i64 ((rd_T36 l0_1 x7_1).f1.f0))).trans hx239_0; replace hx239_1 := (cell_far (p := ⟨gb238, 1, none⟩) zF7_3 (.int .i64 ((rd_T36 l0_1 x7_1).f1.f0))).trans hx239_1; replace hx239_2 := (cell_far (p := ⟨gb238, 1, none⟩) zF7_3 (.int .i64 ((rd_T36 l0_1 x7_1).f1.f0))).trans hx239_2; replace hx239_3 := (cell_far (p := ⟨gb238, 1, none⟩) zF7_3 (.int .i64 ((rd_T36 l0_1 x7_1).f1.f0))).trans hx239_3; replace hx239_4 := (cell_far (p := ⟨gb238, 1, none⟩) zF7_3 (.int .i64 ((rd_T36 l0_1 x7_1).f1.f0))).trans hx239_4; replace hx239_0 := (cell_far (p := ⟨gb238, 2, none⟩) zF7_4 (.int .i64 ((rd_T36 l0_1 x7_1).f1.f1))).trans hx239_0; replace hx239_1 := (cell_far (p := ⟨gb238, 2, none⟩) zF7_4 (.int .i64 ((rd_T36 l0_1 x7_1).f1.f1))).trans hx239_1; replace hx239_2 := (cell_far (p := ⟨gb238, 2, none⟩) zF7_4 (.int .i64 ((rd_T36 l0_1 x7_1).f1.f1))).trans hx239_2; replace hx239_3 := (cell_far (p := ⟨gb238, 2, none⟩) zF7_4 (.int .i64 ((rd_T36 l0_1 x7_1).f1.f1))).trans hx239_3; replace hx239_4 := (cell_far (p := ⟨gb238, 2, none⟩) zF7_4 (.int .i64 ((rd_T36 l0_1 x7_1).f1.f1))).trans hx239_4; replace hx239_0 := (cell_far (p := ⟨gb238, 3, none⟩) zF7_5 (.bool ((rd_T36 l0_1 x7_1).f2))).trans hx239_0; replace hx239_1 := (cell_far (p := ⟨gb238, 3, none⟩) zF7_5 (.bool ((rd_T36 l0_1 x7_1).f2))).trans hx239_1; replace hx239_2 := (cell_far (p := ⟨gb238, 3, none⟩) zF7_5 (.bool ((rd_T36 l0_1 x7_1).f2))).trans hx239_2; replace hx239_3 := (cell_far (p := ⟨gb238, 3, none⟩) zF7_5 (.bool ((rd_T36 l0_1 x7_1).f2))).trans hx239_3; replace hx239_4 := (cell_far (p := ⟨gb238, 3, none⟩) zF7_5 (.bool ((rd_T36 l0_1 x7_1).f2))).trans hx239_4; clear hn239_0; clear hn239_1; clear hn239_2; clear hn239_3; replace p239 := eq_true p239; replace q239 := eq_true q239))
           have n0_ : Aside0 (Kd.R k41 41 ((((w31.setCell ⟨gb238, 0, none⟩ (.string ((rd_T36 l0_1 x7_1).f0))).setCell ⟨gb238, 1, none⟩ (.int .i64 ((rd_T36 l0_1 x7_1).f1.f0))).setCell ⟨gb238, 2, none⟩ (.int .i64 ((rd_T36 l0_1 x7_1).f1.f1))).setCell ⟨gb238, 3, none⟩ (.bool ((rd_T36 l0_1 x7_1).f2))) w.heap.size (fun _ => True) u6 x6_1) := ⟨by (with_reducible repeat (first | apply Kd.R_alloc | apply Kd.R_drewN | apply Kd.R_drew)); exact Kd.R_mono (Kd.R_far (p := ⟨gb238, 3, none⟩) (Kd.R_far (p := ⟨gb238, 2, none⟩) (Kd.R_far (p := ⟨gb238, 1, none⟩) (Kd.R_far (p := ⟨gb238, 0, none⟩) (Kd.R_types HO_6.out BK238.out zF7_28) (fun _ hk => hk.2) (.string ((rd_T36 l0_1 x7_1).f0))) (fun _ hk => hk.2) (.int .i64 ((rd_T36 l0_1 x7_1).f1.f0))) (fun _ hk => hk.2) (.int .i64 ((rd_T36 l0_1 x7_1).f1.f1))) (fun _ hk => hk.2) (.bool ((rd_T36 l0_1 x7_1).f2))) (fun _ hk => trivial)⟩
           have n1_ : Aside0 (((((w31.setCell ⟨gb238, 0, none⟩ (.string ((rd_T36 l0_1 x7_1).f0))).setCell ⟨gb238, 1, none⟩ (.int .i64 ((rd_T36 l0_1 x7_1).f1.f0))).setCell ⟨gb238, 2, none⟩ (.int .i64 ((rd_T36 l0_1 x7_1).f1.f1))).setCell ⟨gb238, 3, none⟩ (.bool ((rd_T36 l0_1 x7_1).f2))).heap[gb236]? = some (.cells #[.string a0_0, .slice (some ad237) l0_1.length c0_1] 24 (0, 0))) := ⟨by (with_reducible repeat (first | refine blk_drewN ?_ _ | refine blk_drew ?_ | refine blk_alloc ?_ _)); refine blk_far ?_ NB236_238.out _; (with_reducible repeat (first | refine blk_drewN ?_ _ | refine blk_drew ?_ | refine blk_alloc ?_ _)); refine blk_far ?_ NB236_238.out _; (with_reducible repeat (first | refine blk_drewN ?_ _ | refine blk_drew ?_ | refine blk_alloc ?_ _)); refine blk_far ?_ NB236_238.out _; (with_reducible repeat (first | refine blk_drewN ?_ _ | refine blk_drew ?_ | refine blk_alloc ?_ _)); refine blk_far ?_ NB236_238.out _; (with_reducible repeat (first | refine blk_drewN ?_ _ | refine blk_drew ?_ | refine blk_alloc ?_ _)); exact BK236.out⟩
           have n2_ : Aside0 (((((w31.setCell ⟨gb238, 0, none⟩ (.string ((rd_T36 l0_1 x7_1).f0))).setCell ⟨gb238, 1, none⟩ (.int .i64 ((rd_T36 l0_1 x7_1).f1.f0))).setCell ⟨gb238, 2, none⟩ (.int .i64 ((rd_T36 l0_1 x7_1).f1.f1))).setCell ⟨gb238, 3, none⟩ (.bool ((rd_T36 l0_1 x7_1).f2))).heap[gb238]? = some (.cells #[.string ((rd_T36 l0_1 x7_1).f0), .int .i64 ((rd_T36 l0_1 x7_1).f1.f0), .int .i64 ((rd_T36 l0_1 x7_1).f1.f1), .bool ((rd_T36 l0_1 x7_1).f2)] 36 (0, 0))) := ⟨by (with_reducible repeat (first | refine blk_drewN ?_ _ | refine blk_drew ?_ | refine blk_alloc ?_ _)); refine blk_put (cs := #[.string ((rd_T36 l0_1 x7_1).f0), .int .i64 ((rd_T36 l0_1 x7_1).f1.f0), .int .i64 ((rd_T36 l0_1 x7_1).f1.f1), .bool false]) ?_ 3 _ rfl; (with_reducible repeat (first | refine blk_drewN ?_ _ | refine blk_drew ?_ | refine blk_alloc ?_ _)); refine blk_put (cs := #[.string ((rd_T36 l0_1 x7_1).f0), .int .i64 ((rd_T36 l0_1 x7_1).f1.f0), .int .i64 0, .bool false]) ?_ 2 _ rfl; (with_reducible repeat (first | refine blk_drewN ?_ _ | refine blk_drew ?_ | refine blk_alloc ?_ _)); refine blk_put (cs := #[.string ((rd_T36 l0_1 x7_1).f0), .int .i64 0, .int .i64 0, .bool false]) ?_ 1 _ rfl; (with_reducible repeat (first | refine blk_drewN ?_ _ | refine blk_drew ?_ | refine blk_alloc ?_ _)); refine blk_put (cs := #[.string (⟨#[]⟩ : ByteArray), .int .i64 0, .int .i64 0, .bool false]) ?_ 0 _ rfl; (with_reducible repeat (first | refine blk_drewN ?_ _ | refine blk_drew ?_ | refine blk_alloc ?_ _)); exact BK238.out⟩
           have n3_ : Aside0 (Below w.heap.size w ((((w31.setCell ⟨gb238, 0, none⟩ (.string ((rd_T36 l0_1 x7_1).f0))).setCell ⟨gb238, 1, none⟩ (.int .i64 ((rd_T36 l0_1 x7_1).f1.f0))).setCell ⟨gb238, 2, none⟩ (.int .i64 ((rd_T36 l0_1 x7_1).f1.f1))).setCell ⟨gb238, 3, none⟩ (.bool ((rd_T36 l0_1 x7_1).f2)))) := ⟨by repeat (first | (with_reducible first | exact HB.out | apply below_alloc | apply pw_below_drewN | apply below_drew1 | refine below_set ?_ GE236.out | refine below_set ?_ GE238.out) | exact HB.out)⟩
           (try clear HO_6)
           (try clear BK236)
           (try clear BK238)
           (try clear HB)
           generalize ((((w31.setCell ⟨gb238, 0, none⟩ (.string ((rd_T36 l0_1 x7_1).f0))).setCell ⟨gb238, 1, none⟩ (.int .i64 ((rd_T36 l0_1 x7_1).f1.f0))).setCell ⟨gb238, 2, none⟩ (.int .i64 ((rd_T36 l0_1 x7_1).f1.f1))).setCell ⟨gb238, 3, none⟩ (.bool ((rd_T36 l0_1 x7_1).f2))) = w34 at n0_ n1_ n2_ n3_ ⊢
           have HO_6 := n0_
           have BK236 := n1_
           have BK238 := n2_
           have HB := n3_
           clear n0_ n1_ n2_ n3_
           have n0_ := Aside0.mk (Kd.R_drew HO_6.out)
           have n1_ := Aside0.mk (blk_drew BK236.out)
           have n2_ := Aside0.mk (blk_drew BK238.out)
           have n3_ := Aside0.mk (below_drew1 HB.out)
           clear HO_6
           clear BK236
           clear BK238
           clear HB
           have HO_6 := n0_
           have BK236 := n1_
           have BK238 := n2_
           have HB := n3_
           clear n0_ n1_ n2_ n3_
           have p248 : 0 ≤ (x7_1 : Int) := of_decide_eq_true zF7_11
           have q248 : x7_1 < (l1.length : Int) := of_decide_eq_true zF7_11
           obtain ⟨ad248, e248, hx248_0, hx248_1, hx248_2, hx248_3, hx248_4⟩ := at_T41 HR1.out x7_1 p248 q248
           have hw248_4 := hx248_4
           have hw248_3 := hx248_3
           have hw248_2 := hx248_2
           have hw248_1 := hx248_1
           have hw248_0 := hx248_0
           (try rw [← Nbq9.out] at hx248_2)
           obtain rfl : ad239 = ad248 := (by injection e248)
           replace hx248_0 := (HB.out.cell (World.block_lt_of_cell? w _ hx248_0)).trans hx248_0
           replace hx248_1 := (HB.out.cell (World.block_lt_of_cell? w _ hx248_1)).trans hx248_1
           replace hx248_2 := (HB.out.cell (World.block_lt_of_cell? w _ hx248_2)).trans hx248_2
           replace hx248_3 := (HB.out.cell (World.block_lt_of_cell? w _ hx248_3)).trans hx248_3
           replace hx248_4 := (HB.out.cell (World.block_lt_of_cell? w _ hx248_4)).trans hx248_4
           replace p248 := eq_true p248
           replace q248 := eq_true q248
           refine start_ (n := 9) (S := fun w' => w'.cell? ⟨gb238, 0, none⟩ = some (.string ((rd_T36 l0_1 x7_1).f0)) ∧ w'.cell? ⟨gb238, 1, none⟩ = some (.int .i64 ((rd_T36 l0_1 x7_1).f1.f0)) ∧ w'.cell? ⟨gb238, 2, none⟩ = some (.int .i64 ((rd_T36 l0_1 x7_1).f1.f1)) ∧ w'.cell? ⟨gb238, 3, none⟩ = some (.bool ((rd_T36 l0_1 x7_1).f2)) ∧ w'.cell? (ad239.add ((x7_1).toNat * 5)) = some (.int .i64 ((rd_T41 l1 x7_1).f0.f0)) ∧ w'.cell? ⟨(ad239.add ((x7_1).toNat * 5)).block, (ad239.add ((x7_1).toNat * 5)).off + 1, none⟩ = some (.int .i64 ((rd_T41 l1 x7_1).f0.f1)) ∧ w'.cell? ⟨(ad239.add ((x7_1).toNat * 5)).block, (ad239.add ((x7_1).toNat * 5)).off + 2, none⟩ = some (.bool (false)) ∧ w'.cell? ⟨(ad239.add ((x7_1).toNat * 5)).block, (ad239.add ((x7_1).toNat * 5)).off + 3, none⟩ = some (.int .i64 ((rd_T41 l1 x7_1).f2)) ∧ w'.cell? ⟨(ad239.add ((x7_1).toNat * 5)).block, (ad239.add ((x7_1).toNat * 5)).off + 4, none⟩ = some (.string ((rd_T41 l1 x7_1).f3))) (ds := []) #[false, false, false, false, false, false, false, false, false] zF7_12 rfl rfl ⟨(blk_cell BK238.out 0).trans rfl, (blk_cell BK238.out 1).trans rfl, (blk_cell BK238.out 2).trans rfl, (blk_cell BK238.out 3).trans rfl, ((HB.out.cell (World.block_lt_of_cell? w _ hw248_0)).trans zF7_23), ((HB.out.cell (World.block_lt_of_cell? w _ hw248_1)).trans zF7_24), ((HB.out.cell (World.block_lt_of_cell? w _ hw248_2)).trans zF7_25), ((HB.out.cell (World.block_lt_of_cell? w _ hw248_3)).trans zF7_26), ((HB.out.cell (World.block_lt_of_cell? w _ hw248_4)).trans zF7_27)⟩ (fun hHeld => ?_); refine with_tabW colonnaderef11_Fit.tab12 colonnaderef11_Fit.bits12 (fun HT_ HW_ => ?_)
           generalize w34.drew = w35 at HO_6 BK236 BK238 HB hx248_0 hx248_1 hx248_2 hx248_3 hx248_4 hHeld ⊢
           refine pure_ (i := 0) (N := some 41) (v := ?_) (a' := ?_) #[true, false, false, false, false, false, false, false, false] rfl rfl (any_of HT_.out zF7_12) (fun _ _ _ h => h) (Or.inl ⟨by rfl, ?_⟩) ?_ ?_
           rotate_left
           ·intro w'
            go_simp
            with_reducible rfl
           rotate_left
           ·simp only [Act.put, List.setIfInBounds_toArray, List.set_cons_zero, List.set_cons_succ, i64_w, i32_w]
            rfl
           refine pure_ (i := 1) (N := some 42) (v := ?_) (a' := ?_) #[true, true, false, false, false, false, false, false, false] rfl rfl (any_of HT_.out zF7_12) (fun _ _ _ h => h) (Or.inl ⟨by rfl, ?_⟩) ?_ ?_
           rotate_left
           ·intro w'
            go_simp
            with_reducible rfl
           rotate_left
           ·simp only [Act.put, List.setIfInBounds_toArray, List.set_cons_zero, List.set_cons_succ, i64_w, i32_w]
            rfl
           refine pure_ (i := 2) (N := some 43) (v := ?_) (a' := ?_) #[true, true, true, false, false, false, false, false, false] rfl rfl (any_of HT_.out zF7_12) (fun _ _ _ h => h) (Or.inl ⟨by rfl, ?_⟩) ?_ ?_
           rotate_left
           ·intro w'
            go_simp
            with_reducible rfl
           rotate_left
           ·simp only [Act.put, List.setIfInBounds_toArray, List.set_cons_zero, List.set_cons_succ, i64_w, i32_w]
            rfl
           refine pure_ (i := 3) (N := some 44) (v := ?_) (a' := ?_) #[true, true, true, true, false, false, false, false, false] rfl rfl (any_of HT_.out zF7_12) (fun _ _ _ h => h) (Or.inl ⟨by rfl, ?_⟩) ?_ ?_
           rotate_left
           ·intro w'
            go_simp
            with_reducible rfl
           rotate_left
           ·simp only [Act.put, List.setIfInBounds_toArray, List.set_cons_zero, List.set_cons_succ, i64_w, i32_w]
            rfl
           refine pure_ (i := 5) (N := some 46) (v := ?_) (a' := ?_) #[true, true, true, true, false, true, false, false, false] rfl rfl (any_of HT_.out zF7_12) (fun _ _ _ h => h) (Or.inl ⟨by rfl, ?_⟩) ?_ ?_
           rotate_left
           ·intro w'
            go_simp
            with_reducible rfl
           rotate_left
           ·simp only [Act.put, List.setIfInBounds_toArray, List.set_cons_zero, List.set_cons_succ, i64_w, i32_w]
            rfl
           refine take_ (i := 4) (N := some 45) (v := ?_) (a' := ?_) #[true, true, true, true, true, true, false, false, false] rfl rfl (take_ofW HT_.out HW_.out zF7_12) (fun _ _ _ h => h) (Or.inl ⟨by rfl, ?_⟩) hHeld ?_ ?_
           rotate_left
           ·rintro w' ⟨s0, s1, s2, s3, s4, s5, s6, s7, s8⟩
            go_simp
            with_reducible rfl
           rotate_left
           ·simp only [Act.put, List.setIfInBounds_toArray, List.set_cons_zero, List.set_cons_succ, i64_w, i32_w]
            rfl
           refine take_ (i := 6) (N := some 47) (v := ?_) (a' := ?_) #[true, true, true, true, true, true, true, false, false] rfl rfl (take_ofW HT_.out HW_.out zF7_12) (fun _ _ _ h => h) (Or.inl ⟨by rfl, ?_⟩) hHeld ?_ ?_
           rotate_left
           ·rintro w' ⟨s0, s1, s2, s3, s4, s5, s6, s7, s8⟩
            go_simp
            with_reducible rfl
           rotate_left
           ·simp only [Act.put, List.setIfInBounds_toArray, List.set_cons_zero, List.set_cons_succ, i64_w, i32_w]
            rfl
           refine one_ (i := 7) (N := some 48) #[true, true, true, true, true, true, true, true, false] rfl rfl (one_of HT_.out zF7_12) zF7_28 (fun K hK => ?_)
           refine goes_ Tryz.func45 zF7_12 rfl #[.agg #[.int .i64 ((rd_T41 l1 x7_1).f0.f0), .int .i64 ((rd_T41 l1 x7_1).f0.f1)], .agg #[.int .i64 ((rd_T36 l0_1 x7_1).f1.f0), .int .i64 ((rd_T36 l0_1 x7_1).f1.f1)]] (by rfl) rfl rfl zF7_13 ?_
           with_reducible refine (colonnaderef02_Alike.calls ((rd_T41 l1 x7_1).f0.f0) ((rd_T41 l1 x7_1).f0.f1) ((rd_T36 l0_1 x7_1).f1.f0) ((rd_T36 l0_1 x7_1).f1.f1) true _ A25.out).mono ?_
           rintro e w36 ⟨rfl, hb⟩
           refine ⟨_, rfl, ?_⟩
           have n0_ := Aside0.mk (Kd.R_below zF7_10 hb)
           have n1_ := Aside0.mk (blk_below (g := gb236) (o := .cells #[.string a0_0, .slice (some ad237) l0_1.length c0_1] 24 (0, 0)) zF7_0 hb)
           have n2_ := Aside0.mk (blk_below (g := gb238) (o := .cells #[.string ((rd_T36 l0_1 x7_1).f0), .int .i64 ((rd_T36 l0_1 x7_1).f1.f0), .int .i64 ((rd_T36 l0_1 x7_1).f1.f1), .bool ((rd_T36 l0_1 x7_1).f2)] 36 (0, 0)) zF7_6 hb)
           have n3_ := Aside0.mk (below_step zF7_1 hb)
           clear HO_6
           clear BK236
           clear BK238
           clear HB
           have HO_6 := n0_
           have BK236 := n1_
           have BK238 := n2_
           have HB := n3_
           clear n0_ n1_ n2_ n3_
           (try clear hb)
           (try clear hb2)
           (try clear hk)
           (try clear hi)
           refine hK.out _ _ ⟨(blk_cell BK238.out 0).trans rfl, (blk_cell BK238.out 1).trans rfl, (blk_cell BK238.out 2).trans rfl, (blk_cell BK238.out 3).trans rfl, ((HB.out.cell (World.block_lt_of_cell? w _ hw248_0)).trans zF7_23), ((HB.out.cell (World.block_lt_of_cell? w _ hw248_1)).trans zF7_24), ((HB.out.cell (World.block_lt_of_cell? w _ hw248_2)).trans zF7_25), ((HB.out.cell (World.block_lt_of_cell? w _ hw248_3)).trans zF7_26), ((HB.out.cell (World.block_lt_of_cell? w _ hw248_4)).trans zF7_27)⟩ (fun hHeld => ?_)
           clear hK K
           refine norm_ (a' := ?_) ?_ ?_
           rotate_left
           ·show Act.put _ (some 48) _ = _
            simp only [Act.put, List.setIfInBounds_toArray, List.set_cons_zero, List.set_cons_succ, i64_w, i32_w]
            rfl
           refine pure_ (i := 8) (N := some 49) (v := ?_) (a' := ?_) #[true, true, true, true, true, true, true, true, true] rfl rfl (any_of HT_.out zF7_12) (fun _ _ _ h => h) (Or.inl ⟨by rfl, ?_⟩) ?_ ?_
           rotate_left
           ·intro w'
            go_simp
            with_reducible rfl
           rotate_left
           ·simp only [Act.put, List.setIfInBounds_toArray, List.set_cons_zero, List.set_cons_succ, i64_w, i32_w]
            rfl
           refine done_ (done_of HT_.out zF7_12) ?_
           try go_wp2
           have n0_ := Aside0.mk (Kd.R_drew HO_6.out)
           have n1_ := Aside0.mk (blk_drew BK236.out)
           have n2_ := Aside0.mk (blk_drew BK238.out)
           have n3_ := Aside0.mk (below_drew1 HB.out)
           clear HO_6
           clear BK236
           clear BK238
           clear HB
           have HO_6 := n0_
           have BK236 := n1_
           have BK238 := n2_
           have HB := n3_
           clear n0_ n1_ n2_ n3_
           have p250 : 0 ≤ (x7_1 : Int) := of_decide_eq_true zF7_11
           have q250 : x7_1 < (l1.length : Int) := of_decide_eq_true zF7_11
           obtain ⟨ad250, e250, hx250_0, hx250_1, hx250_2, hx250_3, hx250_4⟩ := at_T41 HR1.out x7_1 p250 q250
           have hw250_4 := hx250_4
           have hw250_3 := hx250_3
           have hw250_2 := hx250_2
           have hw250_1 := hx250_1
           have hw250_0 := hx250_0
           (try rw [← Nbq9.out] at hx250_2)
           obtain rfl : ad239 = ad250 := (by injection e250)
           replace hx250_0 := (HB.out.cell (World.block_lt_of_cell? w _ hx250_0)).trans hx250_0
           replace hx250_1 := (HB.out.cell (World.block_lt_of_cell? w _ hx250_1)).trans hx250_1
           replace hx250_2 := (HB.out.cell (World.block_lt_of_cell? w _ hx250_2)).trans hx250_2
           replace hx250_3 := (HB.out.cell (World.block_lt_of_cell? w _ hx250_3)).trans hx250_3
           replace hx250_4 := (HB.out.cell (World.block_lt_of_cell? w _ hx250_4)).trans hx250_4
           replace p250 := eq_true p250
           replace q250 := eq_true q250
           refine start_ (n := 13) (S := fun w' => w'.cell? ⟨gb238, 0, none⟩ = some (.string ((rd_T36 l0_1 x7_1).f0)) ∧ w'.cell? ⟨gb238, 1, none⟩ = some (.int .i64 ((rd_T36 l0_1 x7_1).f1.f0)) ∧ w'.cell? ⟨gb238, 2, none⟩ = some (.int .i64 ((rd_T36 l0_1 x7_1).f1.f1)) ∧ w'.cell? ⟨gb238, 3, none⟩ = some (.bool ((rd_T36 l0_1 x7_1).f2)) ∧ w'.cell? (ad239.add ((x7_1).toNat * 5)) = some (.int .i64 ((rd_T41 l1 x7_1).f0.f0)) ∧ w'.cell? ⟨(ad239.add ((x7_1).toNat * 5)).block, (ad239.add ((x7_1).toNat * 5)).off + 1, none⟩ = some (.int .i64 ((rd_T41 l1 x7_1).f0.f1)) ∧ w'.cell? ⟨(ad239.add ((x7_1).toNat * 5)).block, (ad239.add ((x7_1).toNat * 5)).off + 2, none⟩ = some (.bool (false)) ∧ w'.cell? ⟨(ad239.add ((x7_1).toNat * 5)).block, (ad239.add ((x7_1).toNat * 5)).off + 3, none⟩ = some (.int .i64 ((rd_T41 l1 x7_1).f2)) ∧ w'.cell? ⟨(ad239.add ((x7_1).toNat * 5)).block, (ad239.add ((x7_1).toNat * 5)).off + 4, none⟩ = some (.string ((rd_T41 l1 x7_1).f3))) (ds := []) #[false, false, false, false, false, false, false, false, false, false, false, false, false] zF7_12 rfl rfl ⟨(blk_cell BK238.out 0).trans rfl, (blk_cell BK238.out 1).trans rfl, (blk_cell BK238.out 2).trans rfl, (blk_cell BK238.out 3).trans rfl, ((HB.out.cell (World.block_lt_of_cell? w _ hw250_0)).trans zF7_15), ((HB.out.cell (World.block_lt_of_cell? w _ hw250_1)).trans zF7_16), ((HB.out.cell (World.block_lt_of_cell? w _ hw250_2)).trans zF7_17), ((HB.out.cell (World.block_lt_of_cell? w _ hw250_3)).trans zF7_18), ((HB.out.cell (World.block_lt_of_cell? w _ hw250_4)).trans zF7_19)⟩ (fun hHeld => ?_); refine with_tabW colonnaderef11_Fit.tab14 colonnaderef11_Fit.bits14 (fun HT_ HW_ => ?_)
           generalize w36.drew = w37 at HO_6 BK236 BK238 HB hx250_0 hx250_1 hx250_2 hx250_3 hx250_4 hHeld ⊢
           refine pure_ (i := 0) (N := some 51) (v := ?_) (a' := ?_) #[true, false, false, false, false, false, false, false, false, false, false, false, false] rfl rfl (any_of HT_.out zF7_12) (fun _ _ _ h => h) (Or.inl ⟨by rfl, ?_⟩) ?_ ?_
           rotate_left
           ·intro w'
            go_simp
            with_reducible rfl
           rotate_left
           ·simp only [Act.put, List.setIfInBounds_toArray, List.set_cons_zero, List.set_cons_succ, i64_w, i32_w]
            rfl
           refine pure_ (i := 1) (N := some 52) (v := ?_) (a' := ?_) #[true, true, false, false, false, false, false, false, false, false, false, false, false] rfl rfl (any_of HT_.out zF7_12) (fun _ _ _ h => h) (Or.inl ⟨by rfl, ?_⟩) ?_ ?_
           rotate_left
           ·intro w'
            go_simp
            with_reducible rfl
           rotate_left
           ·simp only [Act.put, List.setIfInBounds_toArray, List.set_cons_zero, List.set_cons_succ, i64_w, i32_w]
            rfl
           refine pure_ (i := 2) (N := some 53) (v := ?_) (a' := ?_) #[true, true, true, false, false, false, false, false, false, false, false, false, false] rfl rfl (any_of HT_.out zF7_12) (fun _ _ _ h => h) (Or.inl ⟨by rfl, ?_⟩) ?_ ?_
           rotate_left
           ·intro w'
            go_simp
            with_reducible rfl
           rotate_left
           ·simp only [Act.put, List.setIfInBounds_toArray, List.set_cons_zero, List.set_cons_succ, i64_w, i32_w]
            rfl
           refine pure_ (i := 4) (N := some 55) (v := ?_) (a' := ?_) #[true, true, true, false, true, false, false, false, false, false, false, false, false] rfl rfl (any_of HT_.out zF7_12) (fun _ _ _ h => h) (Or.inl ⟨by rfl, ?_⟩) ?_ ?_
           rotate_left
           ·intro w'
            go_simp
            with_reducible rfl
           rotate_left
           ·simp only [Act.put, List.setIfInBounds_toArray, List.set_cons_zero, List.set_cons_succ, i64_w, i32_w]
            rfl
           refine take_ (i := 3) (N := some 54) (v := ?_) (a' := ?_) #[true, true, true, true, true, false, false, false, false, false, false, false, false] rfl rfl (take_ofW HT_.out HW_.out zF7_12) (fun _ _ _ h => h) (Or.inl ⟨by rfl, ?_⟩) hHeld ?_ ?_
           rotate_left
           ·rintro w' ⟨s0, s1, s2, s3, s4, s5, s6, s7, s8⟩
            go_simp
            with_reducible rfl
           rotate_left
           ·simp only [Act.put, List.setIfInBounds_toArray, List.set_cons_zero, List.set_cons_succ, i64_w, i32_w]
            rfl
           refine take_ (i := 5) (N := some 56) (v := ?_) (a' := ?_) #[true, true, true, true, true, true, false, false, false, false, false, false, false] rfl rfl (take_ofW HT_.out HW_.out zF7_12) (fun _ _ _ h => h) (Or.inl ⟨by rfl, ?_⟩) hHeld ?_ ?_
           rotate_left
           ·rintro w' ⟨s0, s1, s2, s3, s4, s5, s6, s7, s8⟩
            go_simp
            with_reducible rfl
           rotate_left
           ·simp only [Act.put, List.setIfInBounds_toArray, List.set_cons_zero, List.set_cons_succ, i64_w, i32_w]
            rfl
           refine join_ (σ := Nat) 2 #[true, true, true, true, true, true, true, true, true, true, true, false, false] (fun s_ => [(57, .tuple #[.agg #[.int .i64 t251, .int .i64 t252, .bool t253, .int .i64 t254, .string t255], .int .i64 t256]), (9, .pointer (some ⟨s_, 0, none⟩)), (50, .tuple #[.agg #[.int .i64 t251, .int .i64 t252, .bool t253, .int .i64 t254, .string t255], .int .i64 t256]), (58, .agg #[.int .i64 t251, .int .i64 t252, .bool t253, .int .i64 t254, .string t255]), (59, .int .i64 t256)]) (fun s_ w' => (w'.cell? ⟨gb238, 0, none⟩ = some (.string ((rd_T36 l0_1 x7_1).f0)) ∧ w'.cell? ⟨gb238, 1, none⟩ = some (.int .i64 ((rd_T36 l0_1 x7_1).f1.f0)) ∧ w'.cell? ⟨gb238, 2, none⟩ = some (.int .i64 ((rd_T36 l0_1 x7_1).f1.f1)) ∧ w'.cell? ⟨gb238, 3, none⟩ = some (.bool ((rd_T36 l0_1 x7_1).f2)) ∧ w'.cell? (ad239.add ((x7_1).toNat * 5)) = some (.int .i64 ((rd_T41 l1 x7_1).f0.f0)) ∧ w'.cell? ⟨(ad239.add ((x7_1).toNat * 5)).block, (ad239.add ((x7_1).toNat * 5)).off + 1, none⟩ = some (.int .i64 ((rd_T41 l1 x7_1).f0.f1)) ∧ w'.cell? ⟨(ad239.add ((x7_1).toNat * 5)).block, (ad239.add ((x7_1).toNat * 5)).off + 2, none⟩ = some (.bool (false)) ∧ w'.cell? ⟨(ad239.add ((x7_1).toNat * 5)).block, (ad239.add ((x7_1).toNat * 5)).off + 3, none⟩ = some (.int .i64 ((rd_T41 l1 x7_1).f2)) ∧ w'.cell? ⟨(ad239.add ((x7_1).toNat * 5)).block, (ad239.add ((x7_1).toNat * 5)).off + 4, none⟩ = some (.string ((rd_T41 l1 x7_1).f3))) ∧ (Kd.R k41 41 w' w.heap.size (fun k_ => k_ ≠ s_) u6 x6_1) ∧ (w'.heap[gb236]? = some (.cells #[.string a0_0, .slice (some ad237) l0_1.length c0_1] 24 (0, 0))) ∧ (w'.heap[gb238]? = some (.cells #[.string ((rd_T36 l0_1 x7_1).f0), .int .i64 ((rd_T36 l0_1 x7_1).f1.f0), .int .i64 ((rd_T36 l0_1 x7_1).f1.f1), .bool ((rd_T36 l0_1 x7_1).f2)] 36 (0, 0))) ∧ (w'.heap[s_]? = some (.cells #[.int .i64 0, .int .i64 0, .bool false, .int .i64 0, .string (⟨#[]⟩ : ByteArray)] 41 (0, 0))) ∧ (w.heap.size ≤ s_) ∧ (w.heap.size ≤ s_) ∧ (gb236 ≠ s_) ∧ (s_ ≠ gb236) ∧ (gb238 ≠ s_) ∧ (s_ ≠ gb238) ∧ (Below w.heap.size w w')) ?_ ?_
           rotate_left
           ·intro hCont
            refine two_ (i := 6) (j := 10) (Ni := some 57) (Nj := some 9) #[true, true, true, true, true, true, true, false, false, false, false, false, false] #[true, true, true, true, true, true, false, false, false, false, true, false, false] rfl rfl rfl rfl (two_of HT_.out zF7_12) zF7_28 zF7_28 (fun K hK => ?_) (fun K hK => ?_)
            ·skip
             refine goes_ Tryz.func46 zF7_12 rfl #[.agg #[.int .i64 ((rd_T41 l1 x7_1).f0.f0), .int .i64 ((rd_T41 l1 x7_1).f0.f1), .bool false, .int .i64 ((rd_T41 l1 x7_1).f2), .string ((rd_T41 l1 x7_1).f3)], .agg #[.int .i64 ((rd_T36 l0_1 x7_1).f1.f0), .int .i64 ((rd_T36 l0_1 x7_1).f1.f1)]] (by rfl) rfl rfl zF7_13 ?_
             with_reducible refine (colonnaderef02_Cast.calls k1 ((rd_T41 l1 x7_1).f0.f0) ((rd_T41 l1 x7_1).f0.f1) false ((rd_T41 l1 x7_1).f2) ((rd_T41 l1 x7_1).f3) ((rd_T36 l0_1 x7_1).f1.f0) ((rd_T36 l0_1 x7_1).f1.f1) t251 t252 t253 t254 t255 t256 _ A27.out).mono ?_
             rintro e w38 ⟨rfl, hb⟩
             refine ⟨_, rfl, ?_⟩
             have n0_ := Aside0.mk (Kd.R_below zF7_10 hb)
             have n1_ := Aside0.mk (blk_below (g := gb236) (o := .cells #[.string a0_0, .slice (some ad237) l0_1.length c0_1] 24 (0, 0)) zF7_0 hb)
             have n2_ := Aside0.mk (blk_below (g := gb238) (o := .cells #[.string ((rd_T36 l0_1 x7_1).f0), .int .i64 ((rd_T36 l0_1 x7_1).f1.f0), .int .i64 ((rd_T36 l0_1 x7_1).f1.f1), .bool ((rd_T36 l0_1 x7_1).f2)] 36 (0, 0)) zF7_6 hb)
             have n3_ := Aside0.mk (below_step zF7_1 hb)
             clear HO_6
             clear BK236
             clear BK238
             clear HB
             have HO_6 := n0_
             have BK236 := n1_
             have BK238 := n2_
             have HB := n3_
             clear n0_ n1_ n2_ n3_
             (try clear hb)
             (try clear hb2)
             (try clear hk)
             (try clear hi)
             refine hK.out _ _ ⟨(blk_cell BK238.out 0).trans rfl, (blk_cell BK238.out 1).trans rfl, (blk_cell BK238.out 2).trans rfl, (blk_cell BK238.out 3).trans rfl, ((HB.out.cell (World.block_lt_of_cell? w _ hw250_0)).trans zF7_15), ((HB.out.cell (World.block_lt_of_cell? w _ hw250_1)).trans zF7_16), ((HB.out.cell (World.block_lt_of_cell? w _ hw250_2)).trans zF7_17), ((HB.out.cell (World.block_lt_of_cell? w _ hw250_3)).trans zF7_18), ((HB.out.cell (World.block_lt_of_cell? w _ hw250_4)).trans zF7_19)⟩ (fun hHeld => ?_)
             clear hK K
             refine norm_ (a' := ?_) ?_ ?_
             rotate_left
             ·show Act.put _ (some 57) _ = _
              simp only [Act.put, List.setIfInBounds_toArray, List.set_cons_zero, List.set_cons_succ, i64_w, i32_w]
              rfl
             refine pure_ (i := 7) (N := some 50) (v := ?_) (a' := ?_) #[true, true, true, true, true, true, true, true, false, false, false, false, false] rfl rfl (any_of HT_.out zF7_12) (fun _ _ _ h => h) (Or.inl ⟨by rfl, ?_⟩) ?_ ?_
             rotate_left
             ·intro w'
              go_simp
              with_reducible rfl
             rotate_left
             ·simp only [Act.put, List.setIfInBounds_toArray, List.set_cons_zero, List.set_cons_succ, i64_w, i32_w]
              rfl
             refine pure_ (i := 8) (N := some 58) (v := ?_) (a' := ?_) #[true, true, true, true, true, true, true, true, true, false, false, false, false] rfl rfl (any_of HT_.out zF7_12) (fun _ _ _ h => h) (Or.inl ⟨by rfl, ?_⟩) ?_ ?_
             rotate_left
             ·intro w'
              go_simp
              with_reducible rfl
             rotate_left
             ·simp only [Act.put, List.setIfInBounds_toArray, List.set_cons_zero, List.set_cons_succ, i64_w, i32_w]
              rfl
             refine pure_ (i := 9) (N := some 59) (v := ?_) (a' := ?_) #[true, true, true, true, true, true, true, true, true, true, false, false, false] rfl rfl (any_of HT_.out zF7_12) (fun _ _ _ h => h) (Or.inl ⟨by rfl, ?_⟩) ?_ ?_
             rotate_left
             ·intro w'
              go_simp
              with_reducible rfl
             rotate_left
             ·simp only [Act.put, List.setIfInBounds_toArray, List.set_cons_zero, List.set_cons_succ, i64_w, i32_w]
              rfl
             refine one_ (i := 10) (N := some 9) #[true, true, true, true, true, true, true, true, true, true, true, false, false] rfl rfl (one_of HT_.out zF7_12) zF7_28 (fun K hK => ?_)
             refine box_step ?hg (N := 9) ?hd (cs := #[.int .i64 0, .int .i64 0, .bool false, .int .i64 0, .string (⟨#[]⟩ : ByteArray)]) (t := 41) ?hr ?_; (case hd => rfl); (case hg => rfl); (case hr => first | (go_simp; done) | (go_simp; rfl))
             intro gb257 hg w39 hbox hb
             have n0_ := Aside0.mk (Kd.R_below (Kd.R_elderB zF7_10 gb257 (Nat.le_of_eq hg.symm)) hb)
             have n1_ := Aside0.mk (blk_below (g := gb236) (o := .cells #[.string a0_0, .slice (some ad237) l0_1.length c0_1] 24 (0, 0)) zF7_0 hb)
             have n2_ := Aside0.mk (blk_below (g := gb238) (o := .cells #[.string ((rd_T36 l0_1 x7_1).f0), .int .i64 ((rd_T36 l0_1 x7_1).f1.f0), .int .i64 ((rd_T36 l0_1 x7_1).f1.f1), .bool ((rd_T36 l0_1 x7_1).f2)] 36 (0, 0)) zF7_6 hb)
             have n3_ := Aside0.mk (below_step zF7_1 hb)
             have n4_ := Aside0.mk (hbox)
             have n5_ := Aside0.mk ((zF7_35 : w.heap.size ≤ gb257))
             have n6_ := Aside0.mk ((zF7_35 : w.heap.size ≤ gb257))
             have n7_ := Aside0.mk ((zF7_30 : gb236 ≠ gb257))
             have n8_ := Aside0.mk ((zF7_31 : gb257 ≠ gb236))
             have n9_ := Aside0.mk ((zF7_32 : gb238 ≠ gb257))
             have n10_ := Aside0.mk ((zF7_33 : gb257 ≠ gb238))
             clear HO_6
             clear BK236
             clear BK238
             clear HB
             have HO_6 := n0_
             have BK236 := n1_
             have BK238 := n2_
             have HB := n3_
             have BK257 := n4_
             have GW257 := n5_
             have GE257 := n6_
             have NB236_257 := n7_
             have NB257_236 := n8_
             have NB238_257 := n9_
             have NB257_238 := n10_
             clear n0_ n1_ n2_ n3_ n4_ n5_ n6_ n7_ n8_ n9_ n10_
             clear hb hbox hg
             refine hK.out _ _ ⟨(blk_cell BK238.out 0).trans rfl, (blk_cell BK238.out 1).trans rfl, (blk_cell BK238.out 2).trans rfl, (blk_cell BK238.out 3).trans rfl, ((HB.out.cell (World.block_lt_of_cell? w _ hw250_0)).trans zF7_15), ((HB.out.cell (World.block_lt_of_cell? w _ hw250_1)).trans zF7_16), ((HB.out.cell (World.block_lt_of_cell? w _ hw250_2)).trans zF7_17), ((HB.out.cell (World.block_lt_of_cell? w _ hw250_3)).trans zF7_18), ((HB.out.cell (World.block_lt_of_cell? w _ hw250_4)).trans zF7_19)⟩ (fun hHeld => ?_)
             clear hK K
             refine norm_ (a' := ?_) ?_ ?_
             rotate_left
             ·show Act.put _ (some 9) _ = _
              simp only [Act.put, List.setIfInBounds_toArray, List.set_cons_zero, List.set_cons_succ, i64_w, i32_w]
              rfl
             exact norm_ zF7_22 (hCont (gb257) _ ⟨hHeld, zF7_20, zF7_0, zF7_6, zF7_14, GW257.out, GE257.out, NB236_257.out, NB257_236.out, NB238_257.out, NB257_238.out, zF7_9⟩)
            ·skip
             refine box_step ?hg (N := 9) ?hd (cs := #[.int .i64 0, .int .i64 0, .bool false, .int .i64 0, .string (⟨#[]⟩ : ByteArray)]) (t := 41) ?hr ?_; (case hd => rfl); (case hg => rfl); (case hr => first | (go_simp; done) | (go_simp; rfl))
             intro gb257 hg w38 hbox hb
             have n0_ := Aside0.mk (Kd.R_below (Kd.R_elderB zF7_10 gb257 (Nat.le_of_eq hg.symm)) hb)
             have n1_ := Aside0.mk (blk_below (g := gb236) (o := .cells #[.string a0_0, .slice (some ad237) l0_1.length c0_1] 24 (0, 0)) zF7_0 hb)
             have n2_ := Aside0.mk (blk_below (g := gb238) (o := .cells #[.string ((rd_T36 l0_1 x7_1).f0), .int .i64 ((rd_T36 l0_1 x7_1).f1.f0), .int .i64 ((rd_T36 l0_1 x7_1).f1.f1), .bool ((rd_T36 l0_1 x7_1).f2)] 36 (0, 0)) zF7_6 hb)
             have n3_ := Aside0.mk (below_step zF7_1 hb)
             have n4_ := Aside0.mk (hbox)
             have n5_ := Aside0.mk ((zF7_35 : w.heap.size ≤ gb257))
             have n6_ := Aside0.mk ((zF7_35 : w.heap.size ≤ gb257))
             have n7_ := Aside0.mk ((zF7_30 : gb236 ≠ gb257))
             have n8_ := Aside0.mk ((zF7_31 : gb257 ≠ gb236))
             have n9_ := Aside0.mk ((zF7_32 : gb238 ≠ gb257))
             have n10_ := Aside0.mk ((zF7_33 : gb257 ≠ gb238))
             clear HO_6
             clear BK236
             clear BK238
             clear HB
             have HO_6 := n0_
             have BK236 := n1_
             have BK238 := n2_
             have HB := n3_
             have BK257 := n4_
             have GW257 := n5_
             have GE257 := n6_
             have NB236_257 := n7_
             have NB257_236 := n8_
             have NB238_257 := n9_
             have NB257_238 := n10_
             clear n0_ n1_ n2_ n3_ n4_ n5_ n6_ n7_ n8_ n9_ n10_
             clear hb hbox hg
             refine hK.out _ _ ⟨(blk_cell BK238.out 0).trans rfl, (blk_cell BK238.out 1).trans rfl, (blk_cell BK238.out 2).trans rfl, (blk_cell BK238.out 3).trans rfl, ((HB.out.cell (World.block_lt_of_cell? w _ hw250_0)).trans zF7_15), ((HB.out.cell (World.block_lt_of_cell? w _ hw250_1)).trans zF7_16), ((HB.out.cell (World.block_lt_of_cell? w _ hw250_2)).trans zF7_17), ((HB.out.cell (World.block_lt_of_cell? w _ hw250_3)).trans zF7_18), ((HB.out.cell (World.block_lt_of_cell? w _ hw250_4)).trans zF7_19)⟩ (fun hHeld => ?_)
             clear hK K
             refine norm_ (a' := ?_) ?_ ?_
             rotate_left
             ·show Act.put _ (some 9) _ = _
              simp only [Act.put, List.setIfInBounds_toArray, List.set_cons_zero, List.set_cons_succ, i64_w, i32_w]
              rfl
             refine one_ (i := 6) (N := some 57) #[true, true, true, true, true, true, true, false, false, false, true, false, false] rfl rfl (one_of HT_.out zF7_12) zF7_28 (fun K hK => ?_)
             refine goes_ Tryz.func46 zF7_12 rfl #[.agg #[.int .i64 ((rd_T41 l1 x7_1).f0.f0), .int .i64 ((rd_T41 l1 x7_1).f0.f1), .bool false, .int .i64 ((rd_T41 l1 x7_1).f2), .string ((rd_T41 l1 x7_1).f3)], .agg #[.int .i64 ((rd_T36 l0_1 x7_1).f1.f0), .int .i64 ((rd_T36 l0_1 x7_1).f1.f1)]] (by rfl) rfl rfl zF7_13 ?_
             with_reducible refine (colonnaderef02_Cast.calls k1 ((rd_T41 l1 x7_1).f0.f0) ((rd_T41 l1 x7_1).f0.f1) false ((rd_T41 l1 x7_1).f2) ((rd_T41 l1 x7_1).f3) ((rd_T36 l0_1 x7_1).f1.f0) ((rd_T36 l0_1 x7_1).f1.f1) t251 t252 t253 t254 t255 t256 _ A27.out).mono ?_
             rintro e w39 ⟨rfl, hb⟩
             refine ⟨_, rfl, ?_⟩
             have n0_ := Aside0.mk (Kd.R_below zF7_10 hb)
             have n1_ := Aside0.mk (blk_below (g := gb236) (o := .cells #[.string a0_0, .slice (some ad237) l0_1.length c0_1] 24 (0, 0)) zF7_0 hb)
             have n2_ := Aside0.mk (blk_below (g := gb238) (o := .cells #[.string ((rd_T36 l0_1 x7_1).f0), .int .i64 ((rd_T36 l0_1 x7_1).f1.f0), .int .i64 ((rd_T36 l0_1 x7_1).f1.f1), .bool ((rd_T36 l0_1 x7_1).f2)] 36 (0, 0)) zF7_6 hb)
             have n3_ := Aside0.mk (blk_below (g := gb257) (o := .cells #[.int .i64 0, .int .i64 0, .bool false, .int .i64 0, .string (⟨#[]⟩ : ByteArray)] 41 (0, 0)) zF7_14 hb)
             have n4_ := Aside0.mk (below_step zF7_9 hb)
             clear HO_6
             clear BK236
             clear BK238
             clear BK257
             clear HB
             have HO_6 := n0_
             have BK236 := n1_
             have BK238 := n2_
             have BK257 := n3_
             have HB := n4_
             clear n0_ n1_ n2_ n3_ n4_
             (try clear hb)
             (try clear hb2)
             (try clear hk)
             (try clear hi)
             refine hK.out _ _ ⟨(blk_cell BK238.out 0).trans rfl, (blk_cell BK238.out 1).trans rfl, (blk_cell BK238.out 2).trans rfl, (blk_cell BK238.out 3).trans rfl, ((HB.out.cell (World.block_lt_of_cell? w _ hw250_0)).trans zF7_15), ((HB.out.cell (World.block_lt_of_cell? w _ hw250_1)).trans zF7_16), ((HB.out.cell (World.block_lt_of_cell? w _ hw250_2)).trans zF7_17), ((HB.out.cell (World.block_lt_of_cell? w _ hw250_3)).trans zF7_18), ((HB.out.cell (World.block_lt_of_cell? w _ hw250_4)).trans zF7_19)⟩ (fun hHeld => ?_)
             clear hK K
             refine norm_ (a' := ?_) ?_ ?_
             rotate_left
             ·show Act.put _ (some 57) _ = _
              simp only [Act.put, List.setIfInBounds_toArray, List.set_cons_zero, List.set_cons_succ, i64_w, i32_w]
              rfl
             refine pure_ (i := 7) (N := some 50) (v := ?_) (a' := ?_) #[true, true, true, true, true, true, true, true, false, false, true, false, false] rfl rfl (any_of HT_.out zF7_12) (fun _ _ _ h => h) (Or.inl ⟨by rfl, ?_⟩) ?_ ?_
             rotate_left
             ·intro w'
              go_simp
              with_reducible rfl
             rotate_left
             ·simp only [Act.put, List.setIfInBounds_toArray, List.set_cons_zero, List.set_cons_succ, i64_w, i32_w]
              rfl
             refine pure_ (i := 8) (N := some 58) (v := ?_) (a' := ?_) #[true, true, true, true, true, true, true, true, true, false, true, false, false] rfl rfl (any_of HT_.out zF7_12) (fun _ _ _ h => h) (Or.inl ⟨by rfl, ?_⟩) ?_ ?_
             rotate_left
             ·intro w'
              go_simp
              with_reducible rfl
             rotate_left
             ·simp only [Act.put, List.setIfInBounds_toArray, List.set_cons_zero, List.set_cons_succ, i64_w, i32_w]
              rfl
             refine pure_ (i := 9) (N := some 59) (v := ?_) (a' := ?_) #[true, true, true, true, true, true, true, true, true, true, true, false, false] rfl rfl (any_of HT_.out zF7_12) (fun _ _ _ h => h) (Or.inl ⟨by rfl, ?_⟩) ?_ ?_
             rotate_left
             ·intro w'
              go_simp
              with_reducible rfl
             rotate_left
             ·simp only [Act.put, List.setIfInBounds_toArray, List.set_cons_zero, List.set_cons_succ, i64_w, i32_w]
              rfl
             exact norm_ zF7_22 (hCont (gb257) _ ⟨hHeld, zF7_20, zF7_0, zF7_6, zF7_14, GW257.out, GE257.out, NB236_257.out, NB257_236.out, NB238_257.out, NB257_238.out, zF7_9⟩)
           rintro gb257 w40 ⟨hS_, h0_, h1_, h2_, h3_, h4_, h5_, h6_, h7_, h8_, h9_, h10_⟩
           have n0_ : Aside0 (Kd.R k41 41 w40 w.heap.size (fun k_ => k_ ≠ gb257) u6 x6_1) := ⟨h0_⟩
           have n1_ : Aside0 (w40.heap[gb236]? = some (.cells #[.string a0_0, .slice (some ad237) l0_1.length c0_1] 24 (0, 0))) := ⟨h1_⟩
           have n2_ : Aside0 (w40.heap[gb238]? = some (.cells #[.string ((rd_T36 l0_1 x7_1).f0), .int .i64 ((rd_T36 l0_1 x7_1).f1.f0), .int .i64 ((rd_T36 l0_1 x7_1).f1.f1), .bool ((rd_T36 l0_1 x7_1).f2)] 36 (0, 0))) := ⟨h2_⟩
           have n3_ : Aside0 (w40.heap[gb257]? = some (.cells #[.int .i64 0, .int .i64 0, .bool false, .int .i64 0, .string (⟨#[]⟩ : ByteArray)] 41 (0, 0))) := ⟨h3_⟩
           have n4_ : Aside0 (w.heap.size ≤ gb257) := ⟨h4_⟩
           have n5_ : Aside0 (w.heap.size ≤ gb257) := ⟨h5_⟩
           have n6_ : Aside0 (gb236 ≠ gb257) := ⟨h6_⟩
           have n7_ : Aside0 (gb257 ≠ gb236) := ⟨h7_⟩
           have n8_ : Aside0 (gb238 ≠ gb257) := ⟨h8_⟩
           have n9_ : Aside0 (gb257 ≠ gb238) := ⟨h9_⟩
           have n10_ : Aside0 (Below w.heap.size w w40) := ⟨h10_⟩
           clear HO_6
           clear BK236
           clear BK238
           clear HB
           clear h0_ h1_ h2_ h3_ h4_ h5_ h6_ h7_ h8_ h9_ h10_
           have HO_6 := n0_
           have BK236 := n1_
           have BK238 := n2_
           have BK257 := n3_
           have GW257 := n4_
           have GE257 := n5_
           have NB236_257 := n6_
           have NB257_236 := n7_
           have NB238_257 := n8_
           have NB257_238 := n9_
           have HB := n10_
           clear n0_ n1_ n2_ n3_ n4_ n5_ n6_ n7_ n8_ n9_ n10_
           have hHeld : w40.cell? ⟨gb238, 0, none⟩ = some (.string ((rd_T36 l0_1 x7_1).f0)) ∧ w40.cell? ⟨gb238, 1, none⟩ = some (.int .i64 ((rd_T36 l0_1 x7_1).f1.f0)) ∧ w40.cell? ⟨gb238, 2, none⟩ = some (.int .i64 ((rd_T36 l0_1 x7_1).f1.f1)) ∧ w40.cell? ⟨gb238, 3, none⟩ = some (.bool ((rd_T36 l0_1 x7_1).f2)) ∧ w40.cell? (ad239.add ((x7_1).toNat * 5)) = some (.int .i64 ((rd_T41 l1 x7_1).f0.f0)) ∧ w40.cell? ⟨(ad239.add ((x7_1).toNat * 5)).block, (ad239.add ((x7_1).toNat * 5)).off + 1, none⟩ = some (.int .i64 ((rd_T41 l1 x7_1).f0.f1)) ∧ w40.cell? ⟨(ad239.add ((x7_1).toNat * 5)).block, (ad239.add ((x7_1).toNat * 5)).off + 2, none⟩ = some (.bool (false)) ∧ w40.cell? ⟨(ad239.add ((x7_1).toNat * 5)).block, (ad239.add ((x7_1).toNat * 5)).off + 3, none⟩ = some (.int .i64 ((rd_T41 l1 x7_1).f2)) ∧ w40.cell? ⟨(ad239.add ((x7_1).toNat * 5)).block, (ad239.add ((x7_1).toNat * 5)).off + 4, none⟩ = some (.string ((rd_T41 l1 x7_1).f3)) := hS_
           refine norm_ (a' := ?_) ?_ ?_
           rotate_left
           ·simp only [putAll, Act.put, List.setIfInBounds_toArray, List.set_cons_zero, List.set_cons_succ]
            rfl
           refine one_ (i := 11) (N := none) #[true, true, true, true, true, true, true, true, true, true, true, true, false] rfl rfl (one_of HT_.out zF7_12) zF7_28 (fun K hK => ?_)
           have hs41 : w40.cell? ⟨gb257, 0, none⟩ = some (.int .i64 0) := (blk_cell BK257.out 0).trans rfl
           have hfs41 := blk_frozen BK257.out 0
           have hns41_0 := NB236_257.out
           have hns41_1 := NB238_257.out
           have hms41_0 := NB257_236.out
           have hms41_1 := NB257_238.out
           have hs42 : w40.cell? ⟨gb257, 1, none⟩ = some (.int .i64 0) := (blk_cell BK257.out 1).trans rfl
           have hfs42 := blk_frozen BK257.out 1
           have hns42_0 := NB236_257.out
           have hns42_1 := NB238_257.out
           have hms42_0 := NB257_236.out
           have hms42_1 := NB257_238.out
           have hs43 : w40.cell? ⟨gb257, 2, none⟩ = some (.bool false) := (blk_cell BK257.out 2).trans rfl
           have hfs43 := blk_frozen BK257.out 2
           have hns43_0 := NB236_257.out
           have hns43_1 := NB238_257.out
           have hms43_0 := NB257_236.out
           have hms43_1 := NB257_238.out
           have hs44 : w40.cell? ⟨gb257, 3, none⟩ = some (.int .i64 0) := (blk_cell BK257.out 3).trans rfl
           have hfs44 := blk_frozen BK257.out 3
           have hns44_0 := NB236_257.out
           have hns44_1 := NB238_257.out
           have hms44_0 := NB257_236.out
           have hms44_1 := NB257_238.out
           have hs45 : w40.cell? ⟨gb257, 4, none⟩ = some (.string (⟨#[]⟩ : ByteArray)) := (blk_cell BK257.out 4).trans rfl
           have hfs45 := blk_frozen BK257.out 4
           have hns45_0 := NB236_257.out
           have hns45_1 := NB238_257.out
           have hms45_0 := NB257_236.out
           have hms45_1 := NB257_238.out
           refine skip_ (w1 := ?_) (by rfl) rfl ?_ ?_
           rotate_left
           ·go_simp
            rfl
           refine hK.out _ _ ⟨((cell_far (p := ⟨gb257, _, none⟩) NB238_257.out _).trans (((cell_far (p := ⟨gb257, _, none⟩) NB238_257.out _).trans (((cell_far (p := ⟨gb257, _, none⟩) NB238_257.out _).trans (((cell_far (p := ⟨gb257, _, none⟩) NB238_257.out _).trans (((cell_far (p := ⟨gb257, _, none⟩) NB238_257.out _).trans (hHeld.1)))))))))), ((cell_far (p := ⟨gb257, _, none⟩) NB238_257.out _).trans (((cell_far (p := ⟨gb257, _, none⟩) NB238_257.out _).trans (((cell_far (p := ⟨gb257, _, none⟩) NB238_257.out _).trans (((cell_far (p := ⟨gb257, _, none⟩) NB238_257.out _).trans (((cell_far (p := ⟨gb257, _, none⟩) NB238_257.out _).trans (hHeld.2.1)))))))))), ((cell_far (p := ⟨gb257, _, none⟩) NB238_257.out _).trans (((cell_far (p := ⟨gb257, _, none⟩) NB238_257.out _).trans (((cell_far (p := ⟨gb257, _, none⟩) NB238_257.out _).trans (((cell_far (p := ⟨gb257, _, none⟩) NB238_257.out _).trans (((cell_far (p := ⟨gb257, _, none⟩) NB238_257.out _).trans (hHeld.2.2.1)))))))))), ((cell_far (p := ⟨gb257, _, none⟩) NB238_257.out _).trans (((cell_far (p := ⟨gb257, _, none⟩) NB238_257.out _).trans (((cell_far (p := ⟨gb257, _, none⟩) NB238_257.out _).trans (((cell_far (p := ⟨gb257, _, none⟩) NB238_257.out _).trans (((cell_far (p := ⟨gb257, _, none⟩) NB238_257.out _).trans (hHeld.2.2.2.1)))))))))), ((cell_far (p := ⟨gb257, _, none⟩) (by first | exact Nat.ne_of_lt (Nat.lt_of_lt_of_le (by have := World.block_lt_of_cell? _ _ hw250_0; first | rwa [add_block] at this | exact this) GW257.out) | (rw [add_block]; exact Nat.ne_of_lt (Nat.lt_of_lt_of_le (by have := World.block_lt_of_cell? _ _ hw250_0; first | rwa [add_block] at this | exact this) GW257.out)) | (show (Addr.add _ _).block ≠ _; rw [add_block]; exact Nat.ne_of_lt (Nat.lt_of_lt_of_le (by have := World.block_lt_of_cell? _ _ hw250_0; first | rwa [add_block] at this | exact this) GW257.out)) | (dsimp only; exact Nat.ne_of_lt (Nat.lt_of_lt_of_le (by have := World.block_lt_of_cell? _ _ hw250_0; first | rwa [add_block] at this | exact this) GW257.out))) _).trans (((cell_far (p := ⟨gb257, _, none⟩) (by first | exact Nat.ne_of_lt (Nat.lt_of_lt_of_le (by have := World.block_lt_of_cell? _ _ hw250_0; first | rwa [add_block] at this | exact this) GW257.out) | (rw [add_block]; exact Nat.ne_of_lt (Nat.lt_of_lt_of_le (by have := World.block_lt_of_cell? _ _ hw250_0; first | rwa [add_block] at this | exact this) GW257.out)) | (show (Addr.add _ _).block ≠ _; rw [add_block]; exact Nat.ne_of_lt (Nat.lt_of_lt_of_le (by have := World.block_lt_of_cell? _ _ hw250_0; first | rwa [add_block] at this | exact this) GW257.out)) | (dsimp only; exact Nat.ne_of_lt (Nat.lt_of_lt_of_le (by have := World.block_lt_of_cell? _ _ hw250_0; first | rwa [add_block] at this | exact this) GW257.out))) _).trans (((cell_far (p := ⟨gb257, _, none⟩) (by first | exact Nat.ne_of_lt (Nat.lt_of_lt_of_le (by have := World.block_lt_of_cell? _ _ hw250_0; first | rwa [add_block] at this | exact this) GW257.out) | (rw [add_block]; exact Nat.ne_of_lt (Nat.lt_of_lt_of_le (by have := World.block_lt_of_cell? _ _ hw250_0; first | rwa [add_block] at this | exact this) GW257.out)) | (show (Addr.add _ _).block ≠ _; rw [add_block]; exact Nat.ne_of_lt (Nat.lt_of_lt_of_le (by have := World.block_lt_of_cell? _ _ hw250_0; first | rwa [add_block] at this | exact this) GW257.out)) | (dsimp only; exact Nat.ne_of_lt (Nat.lt_of_lt_of_le (by have := World.block_lt_of_cell? _ _ hw250_0; first | rwa [add_block] at this | exact this) GW257.out))) _).trans (((cell_far (p := ⟨gb257, _, none⟩) (by first | exact Nat.ne_of_lt (Nat.lt_of_lt_of_le (by have := World.block_lt_of_cell? _ _ hw250_0; first | rwa [add_block] at this | exact this) GW257.out) | (rw [add_block]; exact Nat.ne_of_lt (Nat.lt_of_lt_of_le (by have := World.block_lt_of_cell? _ _ hw250_0; first | rwa [add_block] at this | exact this) GW257.out)) | (show (Addr.add _ _).block ≠ _; rw [add_block]; exact Nat.ne_of_lt (Nat.lt_of_lt_of_le (by have := World.block_lt_of_cell? _ _ hw250_0; first | rwa [add_block] at this | exact this) GW257.out)) | (dsimp only; exact Nat.ne_of_lt (Nat.lt_of_lt_of_le (by have := World.block_lt_of_cell? _ _ hw250_0; first | rwa [add_block] at this | exact this) GW257.out))) _).trans (((cell_far (p := ⟨gb257, _, none⟩) (by first | exact Nat.ne_of_lt (Nat.lt_of_lt_of_le (by have := World.block_lt_of_cell? _ _ hw250_0; first | rwa [add_block] at this | exact this) GW257.out) | (rw [add_block]; exact Nat.ne_of_lt (Nat.lt_of_lt_of_le (by have := World.block_lt_of_cell? _ _ hw250_0; first | rwa [add_block] at this | exact this) GW257.out)) | (show (Addr.add _ _).block ≠ _; rw [add_block]; exact Nat.ne_of_lt (Nat.lt_of_lt_of_le (by have := World.block_lt_of_cell? _ _ hw250_0; first | rwa [add_block] at this | exact this) GW257.out)) | (dsimp only; exact Nat.ne_of_lt (Nat.lt_of_lt_of_le (by have := World.block_lt_of_cell? _ _ hw250_0; first | rwa [add_block] at this | exact this) GW257.out))) _).trans (hHeld.2.2.2.2.1)))))))))), ((cell_far (p := ⟨gb257, _, none⟩) (by first | exact Nat.ne_of_lt (Nat.lt_of_lt_of_le (by have := World.block_lt_of_cell? _ _ hw250_1; first | rwa [add_block] at this | exact this) GW257.out) | (rw [add_block]; exact Nat.ne_of_lt (Nat.lt_of_lt_of_le (by have := World.block_lt_of_cell? _ _ hw250_1; first | rwa [add_block] at this | exact this) GW257.out)) | (show (Addr.add _ _).block ≠ _; rw [add_block]; exact Nat.ne_of_lt (Nat.lt_of_lt_of_le (by have := World.block_lt_of_cell? _ _ hw250_1; first | rwa [add_block] at this | exact this) GW257.out)) | (dsimp only; exact Nat.ne_of_lt (Nat.lt_of_lt_of_le (by have := World.block_lt_of_cell? _ _ hw250_1; first | rwa [add_block] at this | exact this) GW257.out))) _).trans (((cell_far (p := ⟨gb257, _, none⟩) (by first | exact Nat.ne_of_lt (Nat.lt_of_lt_of_le (by have := World.block_lt_of_cell? _ _ hw250_1; first | rwa [add_block] at this | exact this) GW257.out) | (rw [add_block]; exact Nat.ne_of_lt (Nat.lt_of_lt_of_le (by have := World.block_lt_of_cell? _ _ hw250_1; first | rwa [add_block] at this | exact this) GW257.out)) | (show (Addr.add _ _).block ≠ _; rw [add_block]; exact Nat.ne_of_lt (Nat.lt_of_lt_of_le (by have := World.block_lt_of_cell? _ _ hw250_1; first | rwa [add_block] at this | exact this) GW257.out)) | (dsimp only; exact Nat.ne_of_lt (Nat.lt_of_lt_of_le (by have := World.block_lt_of_cell? _ _ hw250_1; first | rwa [add_block] at this | exact this) GW257.out))) _).trans (((cell_far (p := ⟨gb257, _, none⟩) (by first | exact Nat.ne_of_lt (Nat.lt_of_lt_of_le (by have := World.block_lt_of_cell? _ _ hw250_1; first | rwa [add_block] at this | exact this) GW257.out) | (rw [add_block]; exact Nat.ne_of_lt (Nat.lt_of_lt_of_le (by have := World.block_lt_of_cell? _ _ hw250_1; first | rwa [add_block] at this | exact this) GW257.out)) | (show (Addr.add _ _).block ≠ _; rw [add_block]; exact Nat.ne_of_lt (Nat.lt_of_lt_of_le (by have := World.block_lt_of_cell? _ _ hw250_1; first | rwa [add_block] at this | exact this) GW257.out)) | (dsimp only; exact Nat.ne_of_lt (Nat.lt_of_lt_of_le (by have := World.block_lt_of_cell? _ _ hw250_1; first | rwa [add_block] at this | exact this) GW257.out))) _).trans (((cell_far (p := ⟨gb257, _, none⟩) (by first | exact Nat.ne_of_lt (Nat.lt_of_lt_of_le (by have := World.block_lt_of_cell? _ _ hw250_1; first | rwa [add_block] at this | exact this) GW257.out) | (rw [add_block]; exact Nat.ne_of_lt (Nat.lt_of_lt_of_le (by have := World.block_lt_of_cell? _ _ hw250_1; first | rwa [add_block] at this | exact this) GW257.out)) | (show (Addr.add _ _).block ≠ _; rw [add_block]; exact Nat.ne_of_lt (Nat.lt_of_lt_of_le (by have := World.block_lt_of_cell? _ _ hw250_1; first | rwa [add_block] at this | exact this) GW257.out)) | (dsimp only; exact Nat.ne_of_lt (Nat.lt_of_lt_of_le (by have := World.block_lt_of_cell? _ _ hw250_1; first | rwa [add_block] at this | exact this) GW257.out))) _).trans (((cell_far (p := ⟨gb257, _, none⟩) (by first | exact Nat.ne_of_lt (Nat.lt_of_lt_of_le (by have := World.block_lt_of_cell? _ _ hw250_1; first | rwa [add_block] at this | exact this) GW257.out) | (rw [add_block]; exact Nat.ne_of_lt (Nat.lt_of_lt_of_le (by have := World.block_lt_of_cell? _ _ hw250_1; first | rwa [add_block] at this | exact this) GW257.out)) | (show (Addr.add _ _).block ≠ _; rw [add_block]; exact Nat.ne_of_lt (Nat.lt_of_lt_of_le (by have := World.block_lt_of_cell? _ _ hw250_1; first | rwa [add_block] at this | exact this) GW257.out)) | (dsimp only; exact Nat.ne_of_lt (Nat.lt_of_lt_of_le (by have := World.block_lt_of_cell? _ _ hw250_1; first | rwa [add_block] at this | exact this) GW257.out))) _).trans (hHeld.2.2.2.2.2.1)))))))))), ((cell_far (p := ⟨gb257, _, none⟩) (by first | exact Nat.ne_of_lt (Nat.lt_of_lt_of_le (by have := World.block_lt_of_cell? _ _ hw250_2; first | rwa [add_block] at this | exact this) GW257.out) | (rw [add_block]; exact Nat.ne_of_lt (Nat.lt_of_lt_of_le (by have := World.block_lt_of_cell? _ _ hw250_2; first | rwa [add_block] at this | exact this) GW257.out)) | (show (Addr.add _ _).block ≠ _; rw [add_block]; exact Nat.ne_of_lt (Nat.lt_of_lt_of_le (by have := World.block_lt_of_cell? _ _ hw250_2; first | rwa [add_block] at this | exact this) GW257.out)) | (dsimp only; exact Nat.ne_of_lt (Nat.lt_of_lt_of_le (by have := World.block_lt_of_cell? _ _ hw250_2; first | rwa [add_block] at this | exact this) GW257.out))) _).trans (((cell_far (p := ⟨gb257, _, none⟩) (by first | exact Nat.ne_of_lt (Nat.lt_of_lt_of_le (by have := World.block_lt_of_cell? _ _ hw250_2; first | rwa [add_block] at this | exact this) GW257.out) | (rw [add_block]; exact Nat.ne_of_lt (Nat.lt_of_lt_of_le (by have := World.block_lt_of_cell? _ _ hw250_2; first | rwa [add_block] at this | exact this) GW257.out)) | (show (Addr.add _ _).block ≠ _; rw [add_block]; exact Nat.ne_of_lt (Nat.lt_of_lt_of_le (by have := World.block_lt_of_cell? _ _ hw250_2; first | rwa [add_block] at this | exact this) GW257.out)) | (dsimp only; exact Nat.ne_of_lt (Nat.lt_of_lt_of_le (by have := World.block_lt_of_cell? _ _ hw250_2; first | rwa [add_block] at this | exact this) GW257.out))) _).trans (((cell_far (p := ⟨gb257, _, none⟩) (by first | exact Nat.ne_of_lt (Nat.lt_of_lt_of_le (by have := World.block_lt_of_cell? _ _ hw250_2; first | rwa [add_block] at this | exact this) GW257.out) | (rw [add_block]; exact Nat.ne_of_lt (Nat.lt_of_lt_of_le (by have := World.block_lt_of_cell? _ _ hw250_2; first | rwa [add_block] at this | exact this) GW257.out)) | (show (Addr.add _ _).block ≠ _; rw [add_block]; exact Nat.ne_of_lt (Nat.lt_of_lt_of_le (by have := World.block_lt_of_cell? _ _ hw250_2; first | rwa [add_block] at this | exact this) GW257.out)) | (dsimp only; exact Nat.ne_of_lt (Nat.lt_of_lt_of_le (by have := World.block_lt_of_cell? _ _ hw250_2; first | rwa [add_block] at this | exact this) GW257.out))) _).trans (((cell_far (p := ⟨gb257, _, none⟩) (by first | exact Nat.ne_of_lt (Nat.lt_of_lt_of_le (by have := World.block_lt_of_cell? _ _ hw250_2; first | rwa [add_block] at this | exact this) GW257.out) | (rw [add_block]; exact Nat.ne_of_lt (Nat.lt_of_lt_of_le (by have := World.block_lt_of_cell? _ _ hw250_2; first | rwa [add_block] at this | exact this) GW257.out)) | (show (Addr.add _ _).block ≠ _; rw [add_block]; exact Nat.ne_of_lt (Nat.lt_of_lt_of_le (by have := World.block_lt_of_cell? _ _ hw250_2; first | rwa [add_block] at this | exact this) GW257.out)) | (dsimp only; exact Nat.ne_of_lt (Nat.lt_of_lt_of_le (by have := World.block_lt_of_cell? _ _ hw250_2; first | rwa [add_block] at this | exact this) GW257.out))) _).trans (((cell_far (p := ⟨gb257, _, none⟩) (by first | exact Nat.ne_of_lt (Nat.lt_of_lt_of_le (by have := World.block_lt_of_cell? _ _ hw250_2; first | rwa [add_block] at this | exact this) GW257.out) | (rw [add_block]; exact Nat.ne_of_lt (Nat.lt_of_lt_of_le (by have := World.block_lt_of_cell? _ _ hw250_2; first | rwa [add_block] at this | exact this) GW257.out)) | (show (Addr.add _ _).block ≠ _; rw [add_block]; exact Nat.ne_of_lt (Nat.lt_of_lt_of_le (by have := World.block_lt_of_cell? _ _ hw250_2; first | rwa [add_block] at this | exact this) GW257.out)) | (dsimp only; exact Nat.ne_of_lt (Nat.lt_of_lt_of_le (by have := World.block_lt_of_cell? _ _ hw250_2; first | rwa [add_block] at this | exact this) GW257.out))) _).trans (hHeld.2.2.2.2.2.2.1)))))))))), ((cell_far (p := ⟨gb257, _, none⟩) (by first | exact Nat.ne_of_lt (Nat.lt_of_lt_of_le (by have := World.block_lt_of_cell? _ _ hw250_3; first | rwa [add_block] at this | exact this) GW257.out) | (rw [add_block]; exact Nat.ne_of_lt (Nat.lt_of_lt_of_le (by have := World.block_lt_of_cell? _ _ hw250_3; first | rwa [add_block] at this | exact this) GW257.out)) | (show (Addr.add _ _).block ≠ _; rw [add_block]; exact Nat.ne_of_lt (Nat.lt_of_lt_of_le (by have := World.block_lt_of_cell? _ _ hw250_3; first | rwa [add_block] at this | exact this) GW257.out)) | (dsimp only; exact Nat.ne_of_lt (Nat.lt_of_lt_of_le (by have := World.block_lt_of_cell? _ _ hw250_3; first | rwa [add_block] at this | exact this) GW257.out))) _).trans (((cell_far (p := ⟨gb257, _, none⟩) (by first | exact Nat.ne_of_lt (Nat.lt_of_lt_of_le (by have := World.block_lt_of_cell? _ _ hw250_3; first | rwa [add_block] at this | exact this) GW257.out) | (rw [add_block]; exact Nat.ne_of_lt (Nat.lt_of_lt_of_le (by have := World.block_lt_of_cell? _ _ hw250_3; first | rwa [add_block] at this | exact this) GW257.out)) | (show (Addr.add _ _).block ≠ _; rw [add_block]; exact Nat.ne_of_lt (Nat.lt_of_lt_of_le (by have := World.block_lt_of_cell? _ _ hw250_3; first | rwa [add_block] at this | exact this) GW257.out)) | (dsimp only; exact Nat.ne_of_lt (Nat.lt_of_lt_of_le (by have := World.block_lt_of_cell? _ _ hw250_3; first | rwa [add_block] at this | exact this) GW257.out))) _).trans (((cell_far (p := ⟨gb257, _, none⟩) (by first | exact Nat.ne_of_lt (Nat.lt_of_lt_of_le (by have := World.block_lt_of_cell? _ _ hw250_3; first | rwa [add_block] at this | exact this) GW257.out) | (rw [add_block]; exact Nat.ne_of_lt (Nat.lt_of_lt_of_le (by have := World.block_lt_of_cell? _ _ hw250_3; first | rwa [add_block] at this | exact this) GW257.out)) | (show (Addr.add _ _).block ≠ _; rw [add_block]; exact Nat.ne_of_lt (Nat.lt_of_lt_of_le (by have := World.block_lt_of_cell? _ _ hw250_3; first | rwa [add_block] at this | exact this) GW257.out)) | (dsimp only; exact Nat.ne_of_lt (Nat.lt_of_lt_of_le (by have := World.block_lt_of_cell? _ _ hw250_3; first | rwa [add_block] at this | exact this) GW257.out))) _).trans (((cell_far (p := ⟨gb257, _, none⟩) (by first | exact Nat.ne_of_lt (Nat.lt_of_lt_of_le (by have := World.block_lt_of_cell? _ _ hw250_3; first | rwa [add_block] at this | exact this) GW257.out) | (rw [add_block]; exact Nat.ne_of_lt (Nat.lt_of_lt_of_le (by have := World.block_lt_of_cell? _ _ hw250_3; first | rwa [add_block] at this | exact this) GW257.out)) | (show (Addr.add _ _).block ≠ _; rw [add_block]; exact Nat.ne_of_lt (Nat.lt_of_lt_of_le (by have := World.block_lt_of_cell? _ _ hw250_3; first | rwa [add_block] at this | exact this) GW257.out)) | (dsimp only; exact Nat.ne_of_lt (Nat.lt_of_lt_of_le (by have := World.block_lt_of_cell? _ _ hw250_3; first | rwa [add_block] at this | exact this) GW257.out))) _).trans (((cell_far (p := ⟨gb257, _, none⟩) (by first | exact Nat.ne_of_lt (Nat.lt_of_lt_of_le (by have := World.block_lt_of_cell? _ _ hw250_3; first | rwa [add_block] at this | exact this) GW257.out) | (rw [add_block]; exact Nat.ne_of_lt (Nat.lt_of_lt_of_le (by have := World.block_lt_of_cell? _ _ hw250_3; first | rwa [add_block] at this | exact this) GW257.out)) | (show (Addr.add _ _).block ≠ _; rw [add_block]; exact Nat.ne_of_lt (Nat.lt_of_lt_of_le (by have := World.block_lt_of_cell? _ _ hw250_3; first | rwa [add_block] at this | exact this) GW257.out)) | (dsimp only; exact Nat.ne_of_lt (Nat.lt_of_lt_of_le (by have := World.block_lt_of_cell? _ _ hw250_3; first | rwa [add_block] at this | exact this) GW257.out))) _).trans (hHeld.2.2.2.2.2.2.2.1)))))))))), ((cell_far (p := ⟨gb257, _, none⟩) (by first | exact Nat.ne_of_lt (Nat.lt_of_lt_of_le (by have := World.block_lt_of_cell? _ _ hw250_4; first | rwa [add_block] at this | exact this) GW257.out) | (rw [add_block]; exact Nat.ne_of_lt (Nat.lt_of_lt_of_le (by have := World.block_lt_of_cell? _ _ hw250_4; first | rwa [add_block] at this | exact this) GW257.out)) | (show (Addr.add _ _).block ≠ _; rw [add_block]; exact Nat.ne_of_lt (Nat.lt_of_lt_of_le (by have := World.block_lt_of_cell? _ _ hw250_4; first | rwa [add_block] at this | exact this) GW257.out)) | (dsimp only; exact Nat.ne_of_lt (Nat.lt_of_lt_of_le (by have := World.block_lt_of_cell? _ _ hw250_4; first | rwa [add_block] at this | exact this) GW257.out))) _).trans (((cell_far (p := ⟨gb257, _, none⟩) (by first | exact Nat.ne_of_lt (Nat.lt_of_lt_of_le (by have := World.block_lt_of_cell? _ _ hw250_4; first | rwa [add_block] at this | exact this) GW257.out) | (rw [add_block]; exact Nat.ne_of_lt (Nat.lt_of_lt_of_le (by have := World.block_lt_of_cell? _ _ hw250_4; first | rwa [add_block] at this | exact this) GW257.out)) | (show (Addr.add _ _).block ≠ _; rw [add_block]; exact Nat.ne_of_lt (Nat.lt_of_lt_of_le (by have := World.block_lt_of_cell? _ _ hw250_4; first | rwa [add_block] at this | exact this) GW257.out)) | (dsimp only; exact Nat.ne_of_lt (Nat.lt_of_lt_of_le (by have := World.block_lt_of_cell? _ _ hw250_4; first | rwa [add_block] at this | exact this) GW257.out))) _).trans (((cell_far (p := ⟨gb257, _, none⟩) (by first | exact Nat.ne_of_lt (Nat.lt_of_lt_of_le (by have := World.block_lt_of_cell? _ _ hw250_4; first | rwa [add_block] at this | exact this) GW257.out) | (rw [add_block]; exact Nat.ne_of_lt (Nat.lt_of_lt_of_le (by have := World.block_lt_of_cell? _ _ hw250_4; first | rwa [add_block] at this | exact this) GW257.out)) | (show (Addr.add _ _).block ≠ _; rw [add_block]; exact Nat.ne_of_lt (Nat.lt_of_lt_of_le (by have := World.block_lt_of_cell? _ _ hw250_4; first | rwa [add_block] at this | exact this) GW257.out)) | (dsimp only; exact Nat.ne_of_lt (Nat.lt_of_lt_of_le (by have := World.block_lt_of_cell? _ _ hw250_4; first | rwa [add_block] at this | exact this) GW257.out))) _).trans (((cell_far (p := ⟨gb257, _, none⟩) (by first | exact Nat.ne_of_lt (Nat.lt_of_lt_of_le (by have := World.block_lt_of_cell? _ _ hw250_4; first | rwa [add_block] at this | exact this) GW257.out) | (rw [add_block]; exact Nat.ne_of_lt (Nat.lt_of_lt_of_le (by have := World.block_lt_of_cell? _ _ hw250_4; first | rwa [add_block] at this | exact this) GW257.out)) | (show (Addr.add _ _).block ≠ _; rw [add_block]; exact Nat.ne_of_lt (Nat.lt_of_lt_of_le (by have := World.block_lt_of_cell? _ _ hw250_4; first | rwa [add_block] at this | exact this) GW257.out)) | (dsimp only; exact Nat.ne_of_lt (Nat.lt_of_lt_of_le (by have := World.block_lt_of_cell? _ _ hw250_4; first | rwa [add_block] at this | exact this) GW257.out))) _).trans (((cell_far (p := ⟨gb257, _, none⟩) (by first | exact Nat.ne_of_lt (Nat.lt_of_lt_of_le (by have := World.block_lt_of_cell? _ _ hw250_4; first | rwa [add_block] at this | exact this) GW257.out) | (rw [add_block]; exact Nat.ne_of_lt (Nat.lt_of_lt_of_le (by have := World.block_lt_of_cell? _ _ hw250_4; first | rwa [add_block] at this | exact this) GW257.out)) | (show (Addr.add _ _).block ≠ _; rw [add_block]; exact Nat.ne_of_lt (Nat.lt_of_lt_of_le (by have := World.block_lt_of_cell? _ _ hw250_4; first | rwa [add_block] at this | exact this) GW257.out)) | (dsimp only; exact Nat.ne_of_lt (Nat.lt_of_lt_of_le (by have := World.block_lt_of_cell? _ _ hw250_4; first | rwa [add_block] at this | exact this) GW257.out))) _).trans (hHeld.2.2.2.2.2.2.2.2))))))))))⟩ (fun hHeld => ?_)
           clear hK K
           refine pure_ (i := 12) (N := some 10) (v := ?_) (a' := ?_) #[true, true, true, true, true, true, true, true, true, true, true, true, true] rfl rfl (any_of HT_.out zF7_12) (fun _ _ _ h => h) (Or.inl ⟨by rfl, ?_⟩) ?_ ?_
           rotate_left
           ·intro w'
            go_simp
            with_reducible rfl
           rotate_left
           ·simp only [Act.put, List.setIfInBounds_toArray, List.set_cons_zero, List.set_cons_succ, i64_w, i32_w]
            rfl
           refine done_ (done_of HT_.out zF7_12) ?_
           have hnb46 := NB257_236.out
           have hnc46 := NB236_257.out
           have hnb47 := NB257_238.out
           have hnc47 := NB238_257.out
           have hcz48_0 : w40.cell? ⟨gb257, 0, none⟩ = some (.int .i64 0) := (blk_cell BK257.out 0).trans rfl
           have hcz48_1 : w40.cell? ⟨gb257, 1, none⟩ = some (.int .i64 0) := (blk_cell BK257.out 1).trans rfl
           have hcz48_2 : w40.cell? ⟨gb257, 2, none⟩ = some (.bool false) := (blk_cell BK257.out 2).trans zF7_29
           have hcz48_3 : w40.cell? ⟨gb257, 3, none⟩ = some (.int .i64 0) := (blk_cell BK257.out 3).trans rfl
           have hcz48_4 : w40.cell? ⟨gb257, 4, none⟩ = some (.string (⟨#[]⟩ : ByteArray)) := (blk_cell BK257.out 4).trans rfl
           have hfz48_0 := blk_frozen BK257.out 0
           have hfz48_1 := blk_frozen BK257.out 1
           have hfz48_2 := blk_frozen BK257.out 2
           have hfz48_3 := blk_frozen BK257.out 3
           have hfz48_4 := blk_frozen BK257.out 4
           try go_wp2_with (first | ((with_reducible refine gate_builtin (b := .append) (xs := #[.tmp 63, .tmp 65]) rfl ?_); at_builtin; refine Kd.R_append k41 (w0 := w) w.heap.size rfl (.tmp 63) (.tmp 65) 25 41 (.agg #[(.int .i64 0), (.int .i64 0), (.bool false), (.int .i64 0), (.string ⟨#[]⟩)]) 48 rfl Tryz.underlying25 info41 rfl zF7_28 (by omega) u6 x6_1 (⟨(⟨t251, t252⟩ : S34), t253, t254, t255⟩ : S41) [.int .i64 t251, .int .i64 t252, .bool t253, .int .i64 t254, .string t255] (fun k_ => k_ ≠ gb257) (fun _ => False) rfl (by first | (go_simp; done) | (go_simp; rfl)) ?aP (fun _ hk => hk.elim) ?aF ?aO ?aB ?aS ?aL ?_; (case aP => exact k41_mkM _ _ _ (⟨(⟨t251, t252⟩ : S34), t253, t254, t255⟩ : S41)); (case aB => exact zF7_9); (case aF => exact (fun k_ hk => Kd.freshB (g := gb257) (o := .cells #[.int .i64 t251, .int .i64 t252, .bool t253, .int .i64 t254, .string t255] 41 (0, 0)) zF7_8 k_ hk)); (case aO => exact (by (with_reducible repeat (first | apply Kd.R_alloc | apply Kd.R_drewN | apply Kd.R_drew)); exact Kd.R_mono (Kd.R_far (p := ⟨gb257, 4, none⟩) (Kd.R_far (p := ⟨gb257, 3, none⟩) (Kd.R_far (p := ⟨gb257, 2, none⟩) (Kd.R_far (p := ⟨gb257, 1, none⟩) (Kd.R_far (p := ⟨gb257, 0, none⟩) (Kd.R_mono HO_6.out (fun k_ hk => (⟨hk, hk⟩ : _ ∧ k_ ≠ gb257))) (fun _ hk => hk.2) (.int .i64 t251)) (fun _ hk => hk.2) (.int .i64 t252)) (fun _ hk => hk.2) (.bool t253)) (fun _ hk => hk.2) (.int .i64 t254)) (fun _ hk => hk.2) (.string t255)) (fun _ hk => hk.1))); (case aS => exact (below_size zF7_9)); (case aL => have := LMc29.out; omega); intro v259 w49 ho hb hg hat; rw [← Ny258.out] at ho; have n0_ := Aside0.mk (blk_grown (g := gb236) (o := .cells #[.string a0_0, .slice (some ad237) l0_1.length c0_1] 24 (0, 0)) (by (with_reducible repeat (first | refine blk_drewN ?_ _ | refine blk_drew ?_ | refine blk_alloc ?_ _)); refine blk_far ?_ NB236_257.out _; (with_reducible repeat (first | refine blk_drewN ?_ _ | refine blk_drew ?_ | refine blk_alloc ?_ _)); refine blk_far ?_ NB236_257.out _; (with_reducible repeat (first | refine blk_drewN ?_ _ | refine blk_drew ?_ | refine blk_alloc ?_ _)); refine blk_far ?_ NB236_257.out _; (with_reducible repeat (first | refine blk_drewN ?_ _ | refine blk_drew ?_ | refine blk_alloc ?_ _)); refine blk_far ?_ NB236_257.out _; (with_reducible repeat (first | refine blk_drewN ?_ _ | refine blk_drew ?_ | refine blk_alloc ?_ _)); refine blk_far ?_ NB236_257.out _; (with_reducible repeat (first | refine blk_drewN ?_ _ | refine blk_drew ?_ | refine blk_alloc ?_ _)); exact BK236.out) hg (Kd.R_ne HO_6.out BK236.out zF7_28)); have n1_ := Aside0.mk (blk_grown (g := gb238) (o := .cells #[.string ((rd_T36 l0_1 x7_1).f0), .int .i64 ((rd_T36 l0_1 x7_1).f1.f0), .int .i64 ((rd_T36 l0_1 x7_1).f1.f1), .bool ((rd_T36 l0_1 x7_1).f2)] 36 (0, 0)) (by (with_reducible repeat (first | refine blk_drewN ?_ _ | refine blk_drew ?_ | refine blk_alloc ?_ _)); refine blk_far ?_ NB238_257.out _; (with_reducible repeat (first | refine blk_drewN ?_ _ | refine blk_drew ?_ | refine blk_alloc ?_ _)); refine blk_far ?_ NB238_257.out _; (with_reducible repeat (first | refine blk_drewN ?_ _ | refine blk_drew ?_ | refine blk_alloc ?_ _)); refine blk_far ?_ NB238_257.out _; (with_reducible repeat (first | refine blk_drewN ?_ _ | refine blk_drew ?_ | refine blk_alloc ?_ _)); refine blk_far ?_ NB238_257.out _; (with_reducible repeat (first | refine blk_drewN ?_ _ | refine blk_drew ?_ | refine blk_alloc ?_ _)); refine blk_far ?_ NB238_257.out _; (with_reducible repeat (first | refine blk_drewN ?_ _ | refine blk_drew ?_ | refine blk_alloc ?_ _)); exact BK238.out) hg (Kd.R_ne HO_6.out BK238.out zF7_28)); have n2_ := Aside0.mk (blk_grown (g := gb257) (o := .cells #[.int .i64 t251, .int .i64 t252, .bool t253, .int .i64 t254, .string t255] 41 (0, 0)) zF7_8 hg (Kd.R_away HO_6.out (fun _ hk => hk))); have n3_ := Aside0.mk (hb); have n4_ := Aside0.mk (ho); clear BK236; clear BK238; clear BK257; clear HB; clear HO_6; have BK236 := n0_; have BK238 := n1_; have BK257 := n2_; have HB := n3_; have HO260 := n4_; clear n0_ n1_ n2_ n3_ n4_; clear ho hb hg hat))
           go_roundg k1
           case measure => have := HK1.out; omega
           case rel => exact ⟨(y258), (wrap64 (x7_1 + 1)), (by first | rfl | (simp; done) | (simp [*]; done)), (by first | exact H' | (rw [← Nbq9.out]; exact H')), ⟨by have := HK1.out; omega⟩, ⟨by (with_reducible repeat (first | apply Kd.R_alloc | apply Kd.R_drewN | apply Kd.R_drew)); exact Kd.R_mono HO260.out (fun _ hk => trivial)⟩, ⟨by (with_reducible repeat (first | refine blk_drewN ?_ _ | refine blk_drew ?_ | refine blk_alloc ?_ _)); exact BK236.out⟩, ⟨by repeat (first | (with_reducible first | exact HB.out | apply below_alloc | apply pw_below_drewN | apply below_drew1 | refine below_set ?_ GE236.out | refine below_set ?_ GE238.out | refine below_set ?_ GE257.out) | exact HB.out)⟩⟩
          ·rw [if_neg c29] at H
           exact absurd H (by simp)
         ·rw [if_neg c28] at H
          have c28b0 : (t256 == 0) = false := beq_eq_false_iff_ne.mpr c28
          have c28b1 : (t256 != 0) = true := bne_iff_ne.mpr c28
          simp only [Option.some.injEq, Prod.mk.injEq] at H
          obtain ⟨rfl, rfl⟩ := H
          have hcz50_0 : wr.cell? ⟨gb236, 0, none⟩ = some (.string a0_0) := (blk_cell BK236.out 0).trans rfl
          have hcz50_1 : wr.cell? ⟨gb236, 1, none⟩ = some (.slice A0_1 l0_1.length c0_1) := (blk_cell BK236.out 1).trans rfl
          have hfz50_0 := blk_frozen BK236.out 0
          have hfz50_1 := blk_frozen BK236.out 1
          have p237 : 0 ≤ (x7_1 : Int) := of_decide_eq_true zF7_11
          have q237 : x7_1 < (l0_1.length : Int) := of_decide_eq_true zF7_11
          obtain ⟨ad237, e237, hx237_0, hx237_1, hx237_2, hx237_3⟩ := at_T36 HR0_1.out x7_1 p237 q237
          (try rw [← Nbq9.out] at hx237_3)
          cases e237
          replace hx237_0 := (HB.out.cell (World.block_lt_of_cell? w _ hx237_0)).trans hx237_0
          replace hx237_1 := (HB.out.cell (World.block_lt_of_cell? w _ hx237_1)).trans hx237_1
          replace hx237_2 := (HB.out.cell (World.block_lt_of_cell? w _ hx237_2)).trans hx237_2
          replace hx237_3 := (HB.out.cell (World.block_lt_of_cell? w _ hx237_3)).trans hx237_3
          replace p237 := eq_true p237
          replace q237 := eq_true q237
          try go_wp2_with (first | ((with_reducible refine gate_dst (N := 8) rfl ?_); refine box_event ?hg (N := 8) ?hd (cs := #[.string (⟨#[]⟩ : ByteArray), .int .i64 0, .int .i64 0, .bool false]) (t := 36) ?hr ?_; (case hd => rfl); (case hg => rfl); (case hr => first | (go_simp; done) | (go_simp; rfl)); intro gb238 hg w51 hbox hb; have n0_ := Aside0.mk (Kd.R_below zF7_10 hb); have n1_ := Aside0.mk (blk_below (g := gb236) (o := .cells #[.string a0_0, .slice (some ad237) l0_1.length c0_1] 24 (0, 0)) zF7_0 hb); have n2_ := Aside0.mk (below_step zF7_7 hb); have n3_ := Aside0.mk (hbox); have n4_ := Aside0.mk ((zF7_34 : w.heap.size ≤ gb238)); have n5_ := Aside0.mk ((zF7_34 : w.heap.size ≤ gb238)); have n6_ := Aside0.mk ((zF7_30 : gb236 ≠ gb238)); have n7_ := Aside0.mk ((zF7_31 : gb238 ≠ gb236)); clear HO_6; clear BK236; clear HB; have HO_6 := n0_; have BK236 := n1_; have HB := n2_; have BK238 := n3_; have GW238 := n4_; have GE238 := n5_; have NB236_238 := n6_; have NB238_236 := n7_; clear n0_ n1_ n2_ n3_ n4_ n5_ n6_ n7_; clear hb hbox hg; have hnb52 := NB238_236.out; have hnc52 := NB236_238.out; have hcz53_0 : w51.cell? ⟨gb238, 0, none⟩ = some (.string (⟨#[]⟩ : ByteArray)) := (blk_cell BK238.out 0).trans rfl; have hcz53_1 : w51.cell? ⟨gb238, 1, none⟩ = some (.int .i64 0) := (blk_cell BK238.out 1).trans rfl; have hcz53_2 : w51.cell? ⟨gb238, 2, none⟩ = some (.int .i64 0) := (blk_cell BK238.out 2).trans rfl; have hcz53_3 : w51.cell? ⟨gb238, 3, none⟩ = some (.bool false) := (blk_cell BK238.out 3).trans zF7_29; have hfz53_0 := blk_frozen BK238.out 0; have hfz53_1 := blk_frozen BK238.out 1; have hfz53_2 := blk_frozen BK238.out 2; have hfz53_3 := blk_frozen BK238.out 3; have p239 : 0 ≤ (x7_1 : Int) := of_decide_eq_true zF7_11; have q239 : x7_1 < (l1.length : Int) := of_decide_eq_true zF7_11; obtain ⟨ad239, e239, hx239_0, hx239_1, hx239_2, hx239_3, hx239_4⟩ := at_T41 HR1.out x7_1 p239 q239; (try rw [← Nbq9.out] at hx239_2); cases e239; have hn239_0 : ad239.block ≠ gb238 := Nat.ne_of_lt (Nat.lt_of_lt_of_le (by have := World.block_lt_of_cell? _ _ hx239_0; first | rwa [add_block] at this | exact this) GW238.out); have hn239_1 : ad239.block ≠ gb238 := Nat.ne_of_lt (Nat.lt_of_lt_of_le (by have := World.block_lt_of_cell? _ _ hx239_0; first | rwa [add_block] at this | exact this) GW238.out); have hn239_2 : ad239.block ≠ gb238 := Nat.ne_of_lt (Nat.lt_of_lt_of_le (by have := World.block_lt_of_cell? _ _ hx239_0; first | rwa [add_block] at this | exact this) GW238.out); have hn239_3 : ad239.block ≠ gb238 := Nat.ne_of_lt (Nat.lt_of_lt_of_le (by have := World.block_lt_of_cell? _ _ hx239_0; first | rwa [add_block] at this | exact this) GW238.out); replace hx239_0 := (HB.out.cell (World.block_lt_of_cell? w _ hx239_0)).trans hx239_0; replace hx239_1 := (HB.out.cell (World.block_lt_of_cell? w _ hx239_1)).trans hx239_1; replace hx239_2 := (HB.out.cell (World.block_lt_of_cell? w _ hx239_2)).trans hx239_2; replace hx239_3 := (HB.out.cell (World.block_lt_of_cell? w _ hx239_3)).trans hx239_3; replace hx239_4 := (HB.out.cell (World.block_lt_of_cell? w _ hx239_4)).trans hx239_4; replace hx239_0 := (cell_far (p := ⟨gb238, 0, none⟩) zF7_2 (.string ((rd_T36 l0_1 x7_1).f0))).trans hx239_0; replace hx239_1 := (cell_far (p := ⟨gb238, 0, none⟩) zF7_2 (.string ((rd_T36 l0_1 x7_1).f0))).trans hx239_1; replace hx239_2 := (cell_far (p := ⟨gb238, 0, none⟩) zF7_2 (.string ((rd_T36 l0_1 x7_1).f0))).trans hx239_2; replace hx239_3 := (cell_far (p := ⟨gb238, 0, none⟩) zF7_2 (.string ((rd_T36 l0_1 x7_1).f0))).trans hx239_3; replace hx239_4 := (cell_far (p := ⟨gb238, 0, none⟩) zF7_2 (.string ((rd_T36 l0_1 x7_1).f0))).trans hx239_4; replace hx239_0 := (cell_far (p := ⟨gb238, 1, none⟩) zF7_3 (.int .i64 ((rd_T36 l0_1 x7_1).f1.f0))).trans hx239_0; replace hx239_1 := (cell_far (p := ⟨gb238, 1, none⟩) zF7_3 (.int .i64 ((rd_T36 l0_1 x7_1).f1.f0))).trans hx239_1; replace hx239_2 := (cell_far (p := ⟨gb238, 1, none⟩) zF7_3 (.int .i64 ((rd_T36 l0_1 x7_1).f1.f0))).trans hx239_2; replace hx239_3 := (cell_far (p := ⟨gb238, 1, none⟩) zF7_3 (.int .i64 ((rd_T36 l0_1 x7_1).f1.f0))).trans hx239_3; replace hx239_4 := (cell_far (p := ⟨gb238, 1, none⟩) zF7_3 (.int .i64 ((rd_T36 l0_1 x7_1).f1.f0))).trans hx239_4; replace hx239_0 := (cell_far (p := ⟨gb238, 2, none⟩) zF7_4 (.int .i64 ((rd_T36 l0_1 x7_1).f1.f1))).trans hx239_0; replace hx239_1 := (cell_far (p := ⟨gb238, 2, none⟩) zF7_4 (.int .i64 ((rd_T36 l0_1 x7_1).f1.f1))).trans hx239_1; replace hx239_2 := (cell_far (p := ⟨gb238, 2, none⟩) zF7_4 (.int .i64 ((rd_T36 l0_1 x7_1).f1.f1))).trans hx239_2; replace hx239_3 := (cell_far (p := ⟨gb238, 2, none⟩) zF7_4 (.int .i64 ((rd_T36 l0_1 x7_1).f1.f1))).trans hx239_3; replace hx239_4 := (cell_far (p := ⟨gb238, 2, none⟩) zF7_4 (.int .i64 ((rd_T36 l0_1 x7_1).f1.f1))).trans hx239_4; replace hx239_0 := (cell_far (p := ⟨gb238, 3, none⟩) zF7_5 (.bool ((rd_T36 l0_1 x7_1).f2))).trans hx239_0; replace hx239_1 := (cell_far (p := ⟨gb238, 3, none⟩) zF7_5 (.bool ((rd_T36 l0_1 x7_1).f2))).trans hx239_1; replace hx239_2 := (cell_far (p := ⟨gb238, 3, none⟩) zF7_5 (.bool ((rd_T36 l0_1 x7_1).f2))).trans hx239_2; replace hx239_3 := (cell_far (p := ⟨gb238, 3, none⟩) zF7_5 (.bool ((rd_T36 l0_1 x7_1).f2))).trans hx239_3; replace hx239_4 := (cell_far (p := ⟨gb238, 3, none⟩) zF7_5 (.bool ((rd_T36 l0_1 x7_1).f2))).trans hx239_4; clear hn239_0; clear hn239_1; clear hn239_2; clear hn239_3; replace p239 := eq_true p239; replace q239 := eq_true q239))
          have n0_ : Aside0 (Kd.R k41 41 ((((w51.setCell ⟨gb238, 0, none⟩ (.string ((rd_T36 l0_1 x7_1).f0))).setCell ⟨gb238, 1, none⟩ (.int .i64 ((rd_T36 l0_1 x7_1).f1.f0))).setCell ⟨gb238, 2, none⟩ (.int .i64 ((rd_T36 l0_1 x7_1).f1.f1))).setCell ⟨gb238, 3, none⟩ (.bool ((rd_T36 l0_1 x7_1).f2))) w.heap.size (fun _ => True) u6 x6_1) := ⟨by (with_reducible repeat (first | apply Kd.R_alloc | apply Kd.R_drewN | apply Kd.R_drew)); exact Kd.R_mono (Kd.R_far (p := ⟨gb238, 3, none⟩) (Kd.R_far (p := ⟨gb238, 2, none⟩) (Kd.R_far (p := ⟨gb238, 1, none⟩) (Kd.R_far (p := ⟨gb238, 0, none⟩) (Kd.R_types HO_6.out BK238.out zF7_28) (fun _ hk => hk.2) (.string ((rd_T36 l0_1 x7_1).f0))) (fun _ hk => hk.2) (.int .i64 ((rd_T36 l0_1 x7_1).f1.f0))) (fun _ hk => hk.2) (.int .i64 ((rd_T36 l0_1 x7_1).f1.f1))) (fun _ hk => hk.2) (.bool ((rd_T36 l0_1 x7_1).f2))) (fun _ hk => trivial)⟩
          have n1_ : Aside0 (((((w51.setCell ⟨gb238, 0, none⟩ (.string ((rd_T36 l0_1 x7_1).f0))).setCell ⟨gb238, 1, none⟩ (.int .i64 ((rd_T36 l0_1 x7_1).f1.f0))).setCell ⟨gb238, 2, none⟩ (.int .i64 ((rd_T36 l0_1 x7_1).f1.f1))).setCell ⟨gb238, 3, none⟩ (.bool ((rd_T36 l0_1 x7_1).f2))).heap[gb236]? = some (.cells #[.string a0_0, .slice (some ad237) l0_1.length c0_1] 24 (0, 0))) := ⟨by (with_reducible repeat (first | refine blk_drewN ?_ _ | refine blk_drew ?_ | refine blk_alloc ?_ _)); refine blk_far ?_ NB236_238.out _; (with_reducible repeat (first | refine blk_drewN ?_ _ | refine blk_drew ?_ | refine blk_alloc ?_ _)); refine blk_far ?_ NB236_238.out _; (with_reducible repeat (first | refine blk_drewN ?_ _ | refine blk_drew ?_ | refine blk_alloc ?_ _)); refine blk_far ?_ NB236_238.out _; (with_reducible repeat (first | refine blk_drewN ?_ _ | refine blk_drew ?_ | refine blk_alloc ?_ _)); refine blk_far ?_ NB236_238.out _; (with_reducible repeat (first | refine blk_drewN ?_ _ | refine blk_drew ?_ | refine blk_alloc ?_ _)); exact BK236.out⟩
          have n2_ : Aside0 (((((w51.setCell ⟨gb238, 0, none⟩ (.string ((rd_T36 l0_1 x7_1).f0))).setCell ⟨gb238, 1, none⟩ (.int .i64 ((rd_T36 l0_1 x7_1).f1.f0))).setCell ⟨gb238, 2, none⟩ (.int .i64 ((rd_T36 l0_1 x7_1).f1.f1))).setCell ⟨gb238, 3, none⟩ (.bool ((rd_T36 l0_1 x7_1).f2))).heap[gb238]? = some (.cells #[.string ((rd_T36 l0_1 x7_1).f0), .int .i64 ((rd_T36 l0_1 x7_1).f1.f0), .int .i64 ((rd_T36 l0_1 x7_1).f1.f1), .bool ((rd_T36 l0_1 x7_1).f2)] 36 (0, 0))) := ⟨by (with_reducible repeat (first | refine blk_drewN ?_ _ | refine blk_drew ?_ | refine blk_alloc ?_ _)); refine blk_put (cs := #[.string ((rd_T36 l0_1 x7_1).f0), .int .i64 ((rd_T36 l0_1 x7_1).f1.f0), .int .i64 ((rd_T36 l0_1 x7_1).f1.f1), .bool false]) ?_ 3 _ rfl; (with_reducible repeat (first | refine blk_drewN ?_ _ | refine blk_drew ?_ | refine blk_alloc ?_ _)); refine blk_put (cs := #[.string ((rd_T36 l0_1 x7_1).f0), .int .i64 ((rd_T36 l0_1 x7_1).f1.f0), .int .i64 0, .bool false]) ?_ 2 _ rfl; (with_reducible repeat (first | refine blk_drewN ?_ _ | refine blk_drew ?_ | refine blk_alloc ?_ _)); refine blk_put (cs := #[.string ((rd_T36 l0_1 x7_1).f0), .int .i64 0, .int .i64 0, .bool false]) ?_ 1 _ rfl; (with_reducible repeat (first | refine blk_drewN ?_ _ | refine blk_drew ?_ | refine blk_alloc ?_ _)); refine blk_put (cs := #[.string (⟨#[]⟩ : ByteArray), .int .i64 0, .int .i64 0, .bool false]) ?_ 0 _ rfl; (with_reducible repeat (first | refine blk_drewN ?_ _ | refine blk_drew ?_ | refine blk_alloc ?_ _)); exact BK238.out⟩
          have n3_ : Aside0 (Below w.heap.size w ((((w51.setCell ⟨gb238, 0, none⟩ (.string ((rd_T36 l0_1 x7_1).f0))).setCell ⟨gb238, 1, none⟩ (.int .i64 ((rd_T36 l0_1 x7_1).f1.f0))).setCell ⟨gb238, 2, none⟩ (.int .i64 ((rd_T36 l0_1 x7_1).f1.f1))).setCell ⟨gb238, 3, none⟩ (.bool ((rd_T36 l0_1 x7_1).f2)))) := ⟨by repeat (first | (with_reducible first | exact HB.out | apply below_alloc | apply pw_below_drewN | apply below_drew1 | refine below_set ?_ GE236.out | refine below_set ?_ GE238.out) | exact HB.out)⟩
          (try clear HO_6)
          (try clear BK236)
          (try clear BK238)
          (try clear HB)
          generalize ((((w51.setCell ⟨gb238, 0, none⟩ (.string ((rd_T36 l0_1 x7_1).f0))).setCell ⟨gb238, 1, none⟩ (.int .i64 ((rd_T36 l0_1 x7_1).f1.f0))).setCell ⟨gb238, 2, none⟩ (.int .i64 ((rd_T36 l0_1 x7_1).f1.f1))).setCell ⟨gb238, 3, none⟩ (.bool ((rd_T36 l0_1 x7_1).f2))) = w54 at n0_ n1_ n2_ n3_ ⊢
          have HO_6 := n0_
          have BK236 := n1_
          have BK238 := n2_
          have HB := n3_
          clear n0_ n1_ n2_ n3_
          have n0_ := Aside0.mk (Kd.R_drew HO_6.out)
          have n1_ := Aside0.mk (blk_drew BK236.out)
          have n2_ := Aside0.mk (blk_drew BK238.out)
          have n3_ := Aside0.mk (below_drew1 HB.out)
          clear HO_6
          clear BK236
          clear BK238
          clear HB
          have HO_6 := n0_
          have BK236 := n1_
          have BK238 := n2_
          have HB := n3_
          clear n0_ n1_ n2_ n3_
          have p248 : 0 ≤ (x7_1 : Int) := of_decide_eq_true zF7_11
          have q248 : x7_1 < (l1.length : Int) := of_decide_eq_true zF7_11
          obtain ⟨ad248, e248, hx248_0, hx248_1, hx248_2, hx248_3, hx248_4⟩ := at_T41 HR1.out x7_1 p248 q248
          have hw248_4 := hx248_4
          have hw248_3 := hx248_3
          have hw248_2 := hx248_2
          have hw248_1 := hx248_1
          have hw248_0 := hx248_0
          (try rw [← Nbq9.out] at hx248_2)
          obtain rfl : ad239 = ad248 := (by injection e248)
          replace hx248_0 := (HB.out.cell (World.block_lt_of_cell? w _ hx248_0)).trans hx248_0
          replace hx248_1 := (HB.out.cell (World.block_lt_of_cell? w _ hx248_1)).trans hx248_1
          replace hx248_2 := (HB.out.cell (World.block_lt_of_cell? w _ hx248_2)).trans hx248_2
          replace hx248_3 := (HB.out.cell (World.block_lt_of_cell? w _ hx248_3)).trans hx248_3
          replace hx248_4 := (HB.out.cell (World.block_lt_of_cell? w _ hx248_4)).trans hx248_4
          replace p248 := eq_true p248
          replace q248 := eq_true q248
          refine start_ (n := 9) (S := fun w' => w'.cell? ⟨gb238, 0, none⟩ = some (.string ((rd_T36 l0_1 x7_1).f0)) ∧ w'.cell? ⟨gb238, 1, none⟩ = some (.int .i64 ((rd_T36 l0_1 x7_1).f1.f0)) ∧ w'.cell? ⟨gb238, 2, none⟩ = some (.int .i64 ((rd_T36 l0_1 x7_1).f1.f1)) ∧ w'.cell? ⟨gb238, 3, none⟩ = some (.bool ((rd_T36 l0_1 x7_1).f2)) ∧ w'.cell? (ad239.add ((x7_1).toNat * 5)) = some (.int .i64 ((rd_T41 l1 x7_1).f0.f0)) ∧ w'.cell? ⟨(ad239.add ((x7_1).toNat * 5)).block, (ad239.add ((x7_1).toNat * 5)).off + 1, none⟩ = some (.int .i64 ((rd_T41 l1 x7_1).f0.f1)) ∧ w'.cell? ⟨(ad239.add ((x7_1).toNat * 5)).block, (ad239.add ((x7_1).toNat * 5)).off + 2, none⟩ = some (.bool (false)) ∧ w'.cell? ⟨(ad239.add ((x7_1).toNat * 5)).block, (ad239.add ((x7_1).toNat * 5)).off + 3, none⟩ = some (.int .i64 ((rd_T41 l1 x7_1).f2)) ∧ w'.cell? ⟨(ad239.add ((x7_1).toNat * 5)).block, (ad239.add ((x7_1).toNat * 5)).off + 4, none⟩ = some (.string ((rd_T41 l1 x7_1).f3))) (ds := []) #[false, false, false, false, false, false, false, false, false] zF7_12 rfl rfl ⟨(blk_cell BK238.out 0).trans rfl, (blk_cell BK238.out 1).trans rfl, (blk_cell BK238.out 2).trans rfl, (blk_cell BK238.out 3).trans rfl, ((HB.out.cell (World.block_lt_of_cell? w _ hw248_0)).trans zF7_23), ((HB.out.cell (World.block_lt_of_cell? w _ hw248_1)).trans zF7_24), ((HB.out.cell (World.block_lt_of_cell? w _ hw248_2)).trans zF7_25), ((HB.out.cell (World.block_lt_of_cell? w _ hw248_3)).trans zF7_26), ((HB.out.cell (World.block_lt_of_cell? w _ hw248_4)).trans zF7_27)⟩ (fun hHeld => ?_); refine with_tabW colonnaderef11_Fit.tab12 colonnaderef11_Fit.bits12 (fun HT_ HW_ => ?_)
          generalize w54.drew = w55 at HO_6 BK236 BK238 HB hx248_0 hx248_1 hx248_2 hx248_3 hx248_4 hHeld ⊢
          refine pure_ (i := 0) (N := some 41) (v := ?_) (a' := ?_) #[true, false, false, false, false, false, false, false, false] rfl rfl (any_of HT_.out zF7_12) (fun _ _ _ h => h) (Or.inl ⟨by rfl, ?_⟩) ?_ ?_
          rotate_left
          ·intro w'
           go_simp
           with_reducible rfl
          rotate_left
          ·simp only [Act.put, List.setIfInBounds_toArray, List.set_cons_zero, List.set_cons_succ, i64_w, i32_w]
           rfl
          refine pure_ (i := 1) (N := some 42) (v := ?_) (a' := ?_) #[true, true, false, false, false, false, false, false, false] rfl rfl (any_of HT_.out zF7_12) (fun _ _ _ h => h) (Or.inl ⟨by rfl, ?_⟩) ?_ ?_
          rotate_left
          ·intro w'
           go_simp
           with_reducible rfl
          rotate_left
          ·simp only [Act.put, List.setIfInBounds_toArray, List.set_cons_zero, List.set_cons_succ, i64_w, i32_w]
           rfl
          refine pure_ (i := 2) (N := some 43) (v := ?_) (a' := ?_) #[true, true, true, false, false, false, false, false, false] rfl rfl (any_of HT_.out zF7_12) (fun _ _ _ h => h) (Or.inl ⟨by rfl, ?_⟩) ?_ ?_
          rotate_left
          ·intro w'
           go_simp
           with_reducible rfl
          rotate_left
          ·simp only [Act.put, List.setIfInBounds_toArray, List.set_cons_zero, List.set_cons_succ, i64_w, i32_w]
           rfl
          refine pure_ (i := 3) (N := some 44) (v := ?_) (a' := ?_) #[true, true, true, true, false, false, false, false, false] rfl rfl (any_of HT_.out zF7_12) (fun _ _ _ h => h) (Or.inl ⟨by rfl, ?_⟩) ?_ ?_
          rotate_left
          ·intro w'
           go_simp
           with_reducible rfl
          rotate_left
          ·simp only [Act.put, List.setIfInBounds_toArray, List.set_cons_zero, List.set_cons_succ, i64_w, i32_w]
           rfl
          refine pure_ (i := 5) (N := some 46) (v := ?_) (a' := ?_) #[true, true, true, true, false, true, false, false, false] rfl rfl (any_of HT_.out zF7_12) (fun _ _ _ h => h) (Or.inl ⟨by rfl, ?_⟩) ?_ ?_
          rotate_left
          ·intro w'
           go_simp
           with_reducible rfl
          rotate_left
          ·simp only [Act.put, List.setIfInBounds_toArray, List.set_cons_zero, List.set_cons_succ, i64_w, i32_w]
           rfl
          refine take_ (i := 4) (N := some 45) (v := ?_) (a' := ?_) #[true, true, true, true, true, true, false, false, false] rfl rfl (take_ofW HT_.out HW_.out zF7_12) (fun _ _ _ h => h) (Or.inl ⟨by rfl, ?_⟩) hHeld ?_ ?_
          rotate_left
          ·rintro w' ⟨s0, s1, s2, s3, s4, s5, s6, s7, s8⟩
           go_simp
           with_reducible rfl
          rotate_left
          ·simp only [Act.put, List.setIfInBounds_toArray, List.set_cons_zero, List.set_cons_succ, i64_w, i32_w]
           rfl
          refine take_ (i := 6) (N := some 47) (v := ?_) (a' := ?_) #[true, true, true, true, true, true, true, false, false] rfl rfl (take_ofW HT_.out HW_.out zF7_12) (fun _ _ _ h => h) (Or.inl ⟨by rfl, ?_⟩) hHeld ?_ ?_
          rotate_left
          ·rintro w' ⟨s0, s1, s2, s3, s4, s5, s6, s7, s8⟩
           go_simp
           with_reducible rfl
          rotate_left
          ·simp only [Act.put, List.setIfInBounds_toArray, List.set_cons_zero, List.set_cons_succ, i64_w, i32_w]
           rfl
          refine one_ (i := 7) (N := some 48) #[true, true, true, true, true, true, true, true, false] rfl rfl (one_of HT_.out zF7_12) zF7_28 (fun K hK => ?_)
          refine goes_ Tryz.func45 zF7_12 rfl #[.agg #[.int .i64 ((rd_T41 l1 x7_1).f0.f0), .int .i64 ((rd_T41 l1 x7_1).f0.f1)], .agg #[.int .i64 ((rd_T36 l0_1 x7_1).f1.f0), .int .i64 ((rd_T36 l0_1 x7_1).f1.f1)]] (by rfl) rfl rfl zF7_13 ?_
          with_reducible refine (colonnaderef02_Alike.calls ((rd_T41 l1 x7_1).f0.f0) ((rd_T41 l1 x7_1).f0.f1) ((rd_T36 l0_1 x7_1).f1.f0) ((rd_T36 l0_1 x7_1).f1.f1) true _ A25.out).mono ?_
          rintro e w56 ⟨rfl, hb⟩
          refine ⟨_, rfl, ?_⟩
          have n0_ := Aside0.mk (Kd.R_below zF7_10 hb)
          have n1_ := Aside0.mk (blk_below (g := gb236) (o := .cells #[.string a0_0, .slice (some ad237) l0_1.length c0_1] 24 (0, 0)) zF7_0 hb)
          have n2_ := Aside0.mk (blk_below (g := gb238) (o := .cells #[.string ((rd_T36 l0_1 x7_1).f0), .int .i64 ((rd_T36 l0_1 x7_1).f1.f0), .int .i64 ((rd_T36 l0_1 x7_1).f1.f1), .bool ((rd_T36 l0_1 x7_1).f2)] 36 (0, 0)) zF7_6 hb)
          have n3_ := Aside0.mk (below_step zF7_1 hb)
          clear HO_6
          clear BK236
          clear BK238
          clear HB
          have HO_6 := n0_
          have BK236 := n1_
          have BK238 := n2_
          have HB := n3_
          clear n0_ n1_ n2_ n3_
          (try clear hb)
          (try clear hb2)
          (try clear hk)
          (try clear hi)
          refine hK.out _ _ ⟨(blk_cell BK238.out 0).trans rfl, (blk_cell BK238.out 1).trans rfl, (blk_cell BK238.out 2).trans rfl, (blk_cell BK238.out 3).trans rfl, ((HB.out.cell (World.block_lt_of_cell? w _ hw248_0)).trans zF7_23), ((HB.out.cell (World.block_lt_of_cell? w _ hw248_1)).trans zF7_24), ((HB.out.cell (World.block_lt_of_cell? w _ hw248_2)).trans zF7_25), ((HB.out.cell (World.block_lt_of_cell? w _ hw248_3)).trans zF7_26), ((HB.out.cell (World.block_lt_of_cell? w _ hw248_4)).trans zF7_27)⟩ (fun hHeld => ?_)
          clear hK K
          refine norm_ (a' := ?_) ?_ ?_
          rotate_left
          ·show Act.put _ (some 48) _ = _
           simp only [Act.put, List.setIfInBounds_toArray, List.set_cons_zero, List.set_cons_succ, i64_w, i32_w]
           rfl
          refine pure_ (i := 8) (N := some 49) (v := ?_) (a' := ?_) #[true, true, true, true, true, true, true, true, true] rfl rfl (any_of HT_.out zF7_12) (fun _ _ _ h => h) (Or.inl ⟨by rfl, ?_⟩) ?_ ?_
          rotate_left
          ·intro w'
           go_simp
           with_reducible rfl
          rotate_left
          ·simp only [Act.put, List.setIfInBounds_toArray, List.set_cons_zero, List.set_cons_succ, i64_w, i32_w]
           rfl
          refine done_ (done_of HT_.out zF7_12) ?_
          try go_wp2
          have n0_ := Aside0.mk (Kd.R_drew HO_6.out)
          have n1_ := Aside0.mk (blk_drew BK236.out)
          have n2_ := Aside0.mk (blk_drew BK238.out)
          have n3_ := Aside0.mk (below_drew1 HB.out)
          clear HO_6
          clear BK236
          clear BK238
          clear HB
          have HO_6 := n0_
          have BK236 := n1_
          have BK238 := n2_
          have HB := n3_
          clear n0_ n1_ n2_ n3_
          have p250 : 0 ≤ (x7_1 : Int) := of_decide_eq_true zF7_11
          have q250 : x7_1 < (l1.length : Int) := of_decide_eq_true zF7_11
          obtain ⟨ad250, e250, hx250_0, hx250_1, hx250_2, hx250_3, hx250_4⟩ := at_T41 HR1.out x7_1 p250 q250
          have hw250_4 := hx250_4
          have hw250_3 := hx250_3
          have hw250_2 := hx250_2
          have hw250_1 := hx250_1
          have hw250_0 := hx250_0
          (try rw [← Nbq9.out] at hx250_2)
          obtain rfl : ad239 = ad250 := (by injection e250)
          replace hx250_0 := (HB.out.cell (World.block_lt_of_cell? w _ hx250_0)).trans hx250_0
          replace hx250_1 := (HB.out.cell (World.block_lt_of_cell? w _ hx250_1)).trans hx250_1
          replace hx250_2 := (HB.out.cell (World.block_lt_of_cell? w _ hx250_2)).trans hx250_2
          replace hx250_3 := (HB.out.cell (World.block_lt_of_cell? w _ hx250_3)).trans hx250_3
          replace hx250_4 := (HB.out.cell (World.block_lt_of_cell? w _ hx250_4)).trans hx250_4
          replace p250 := eq_true p250
          replace q250 := eq_true q250
          refine start_ (n := 13) (S := fun w' => w'.cell? ⟨gb238, 0, none⟩ = some (.string ((rd_T36 l0_1 x7_1).f0)) ∧ w'.cell? ⟨gb238, 1, none⟩ = some (.int .i64 ((rd_T36 l0_1 x7_1).f1.f0)) ∧ w'.cell? ⟨gb238, 2, none⟩ = some (.int .i64 ((rd_T36 l0_1 x7_1).f1.f1)) ∧ w'.cell? ⟨gb238, 3, none⟩ = some (.bool ((rd_T36 l0_1 x7_1).f2)) ∧ w'.cell? (ad239.add ((x7_1).toNat * 5)) = some (.int .i64 ((rd_T41 l1 x7_1).f0.f0)) ∧ w'.cell? ⟨(ad239.add ((x7_1).toNat * 5)).block, (ad239.add ((x7_1).toNat * 5)).off + 1, none⟩ = some (.int .i64 ((rd_T41 l1 x7_1).f0.f1)) ∧ w'.cell? ⟨(ad239.add ((x7_1).toNat * 5)).block, (ad239.add ((x7_1).toNat * 5)).off + 2, none⟩ = some (.bool (false)) ∧ w'.cell? ⟨(ad239.add ((x7_1).toNat * 5)).block, (ad239.add ((x7_1).toNat * 5)).off + 3, none⟩ = some (.int .i64 ((rd_T41 l1 x7_1).f2)) ∧ w'.cell? ⟨(ad239.add ((x7_1).toNat * 5)).block, (ad239.add ((x7_1).toNat * 5)).off + 4, none⟩ = some (.string ((rd_T41 l1 x7_1).f3))) (ds := []) #[false, false, false, false, false, false, false, false, false, false, false, false, false] zF7_12 rfl rfl ⟨(blk_cell BK238.out 0).trans rfl, (blk_cell BK238.out 1).trans rfl, (blk_cell BK238.out 2).trans rfl, (blk_cell BK238.out 3).trans rfl, ((HB.out.cell (World.block_lt_of_cell? w _ hw250_0)).trans zF7_15), ((HB.out.cell (World.block_lt_of_cell? w _ hw250_1)).trans zF7_16), ((HB.out.cell (World.block_lt_of_cell? w _ hw250_2)).trans zF7_17), ((HB.out.cell (World.block_lt_of_cell? w _ hw250_3)).trans zF7_18), ((HB.out.cell (World.block_lt_of_cell? w _ hw250_4)).trans zF7_19)⟩ (fun hHeld => ?_); refine with_tabW colonnaderef11_Fit.tab14 colonnaderef11_Fit.bits14 (fun HT_ HW_ => ?_)
          generalize w56.drew = w57 at HO_6 BK236 BK238 HB hx250_0 hx250_1 hx250_2 hx250_3 hx250_4 hHeld ⊢
          refine pure_ (i := 0) (N := some 51) (v := ?_) (a' := ?_) #[true, false, false, false, false, false, false, false, false, false, false, false, false] rfl rfl (any_of HT_.out zF7_12) (fun _ _ _ h => h) (Or.inl ⟨by rfl, ?_⟩) ?_ ?_
          rotate_left
          ·intro w'
           go_simp
           with_reducible rfl
          rotate_left
          ·simp only [Act.put, List.setIfInBounds_toArray, List.set_cons_zero, List.set_cons_succ, i64_w, i32_w]
           rfl
          refine pure_ (i := 1) (N := some 52) (v := ?_) (a' := ?_) #[true, true, false, false, false, false, false, false, false, false, false, false, false] rfl rfl (any_of HT_.out zF7_12) (fun _ _ _ h => h) (Or.inl ⟨by rfl, ?_⟩) ?_ ?_
          rotate_left
          ·intro w'
           go_simp
           with_reducible rfl
          rotate_left
          ·simp only [Act.put, List.setIfInBounds_toArray, List.set_cons_zero, List.set_cons_succ, i64_w, i32_w]
           rfl
          refine pure_ (i := 2) (N := some 53) (v := ?_) (a' := ?_) #[true, true, true, false, false, false, false, false, false, false, false, false, false] rfl rfl (any_of HT_.out zF7_12) (fun _ _ _ h => h) (Or.inl ⟨by rfl, ?_⟩) ?_ ?_
          rotate_left
          ·intro w'
           go_simp
           with_reducible rfl
          rotate_left
          ·simp only [Act.put, List.setIfInBounds_toArray, List.set_cons_zero, List.set_cons_succ, i64_w, i32_w]
           rfl
          refine pure_ (i := 4) (N := some 55) (v := ?_) (a' := ?_) #[true, true, true, false, true, false, false, false, false, false, false, false, false] rfl rfl (any_of HT_.out zF7_12) (fun _ _ _ h => h) (Or.inl ⟨by rfl, ?_⟩) ?_ ?_
          rotate_left
          ·intro w'
           go_simp
           with_reducible rfl
          rotate_left
          ·simp only [Act.put, List.setIfInBounds_toArray, List.set_cons_zero, List.set_cons_succ, i64_w, i32_w]
           rfl
          refine take_ (i := 3) (N := some 54) (v := ?_) (a' := ?_) #[true, true, true, true, true, false, false, false, false, false, false, false, false] rfl rfl (take_ofW HT_.out HW_.out zF7_12) (fun _ _ _ h => h) (Or.inl ⟨by rfl, ?_⟩) hHeld ?_ ?_
          rotate_left
          ·rintro w' ⟨s0, s1, s2, s3, s4, s5, s6, s7, s8⟩
           go_simp
           with_reducible rfl
          rotate_left
          ·simp only [Act.put, List.setIfInBounds_toArray, List.set_cons_zero, List.set_cons_succ, i64_w, i32_w]
           rfl
          refine take_ (i := 5) (N := some 56) (v := ?_) (a' := ?_) #[true, true, true, true, true, true, false, false, false, false, false, false, false] rfl rfl (take_ofW HT_.out HW_.out zF7_12) (fun _ _ _ h => h) (Or.inl ⟨by rfl, ?_⟩) hHeld ?_ ?_
          rotate_left
          ·rintro w' ⟨s0, s1, s2, s3, s4, s5, s6, s7, s8⟩
           go_simp
           with_reducible rfl
          rotate_left
          ·simp only [Act.put, List.setIfInBounds_toArray, List.set_cons_zero, List.set_cons_succ, i64_w, i32_w]
           rfl
          refine join_ (σ := Nat) 2 #[true, true, true, true, true, true, true, true, true, true, true, false, false] (fun s_ => [(57, .tuple #[.agg #[.int .i64 t251, .int .i64 t252, .bool t253, .int .i64 t254, .string t255], .int .i64 t256]), (9, .pointer (some ⟨s_, 0, none⟩)), (50, .tuple #[.agg #[.int .i64 t251, .int .i64 t252, .bool t253, .int .i64 t254, .string t255], .int .i64 t256]), (58, .agg #[.int .i64 t251, .int .i64 t252, .bool t253, .int .i64 t254, .string t255]), (59, .int .i64 t256)]) (fun s_ w' => (w'.cell? ⟨gb238, 0, none⟩ = some (.string ((rd_T36 l0_1 x7_1).f0)) ∧ w'.cell? ⟨gb238, 1, none⟩ = some (.int .i64 ((rd_T36 l0_1 x7_1).f1.f0)) ∧ w'.cell? ⟨gb238, 2, none⟩ = some (.int .i64 ((rd_T36 l0_1 x7_1).f1.f1)) ∧ w'.cell? ⟨gb238, 3, none⟩ = some (.bool ((rd_T36 l0_1 x7_1).f2)) ∧ w'.cell? (ad239.add ((x7_1).toNat * 5)) = some (.int .i64 ((rd_T41 l1 x7_1).f0.f0)) ∧ w'.cell? ⟨(ad239.add ((x7_1).toNat * 5)).block, (ad239.add ((x7_1).toNat * 5)).off + 1, none⟩ = some (.int .i64 ((rd_T41 l1 x7_1).f0.f1)) ∧ w'.cell? ⟨(ad239.add ((x7_1).toNat * 5)).block, (ad239.add ((x7_1).toNat * 5)).off + 2, none⟩ = some (.bool (false)) ∧ w'.cell? ⟨(ad239.add ((x7_1).toNat * 5)).block, (ad239.add ((x7_1).toNat * 5)).off + 3, none⟩ = some (.int .i64 ((rd_T41 l1 x7_1).f2)) ∧ w'.cell? ⟨(ad239.add ((x7_1).toNat * 5)).block, (ad239.add ((x7_1).toNat * 5)).off + 4, none⟩ = some (.string ((rd_T41 l1 x7_1).f3))) ∧ (Kd.R k41 41 w' w.heap.size (fun k_ => k_ ≠ s_) u6 x6_1) ∧ (w'.heap[gb236]? = some (.cells #[.string a0_0, .slice (some ad237) l0_1.length c0_1] 24 (0, 0))) ∧ (w'.heap[gb238]? = some (.cells #[.string ((rd_T36 l0_1 x7_1).f0), .int .i64 ((rd_T36 l0_1 x7_1).f1.f0), .int .i64 ((rd_T36 l0_1 x7_1).f1.f1), .bool ((rd_T36 l0_1 x7_1).f2)] 36 (0, 0))) ∧ (w'.heap[s_]? = some (.cells #[.int .i64 0, .int .i64 0, .bool false, .int .i64 0, .string (⟨#[]⟩ : ByteArray)] 41 (0, 0))) ∧ (w.heap.size ≤ s_) ∧ (w.heap.size ≤ s_) ∧ (gb236 ≠ s_) ∧ (s_ ≠ gb236) ∧ (gb238 ≠ s_) ∧ (s_ ≠ gb238) ∧ (Below w.heap.size w w')) ?_ ?_
          rotate_left
          ·intro hCont
           refine two_ (i := 6) (j := 10) (Ni := some 57) (Nj := some 9) #[true, true, true, true, true, true, true, false, false, false, false, false, false] #[true, true, true, true, true, true, false, false, false, false, true, false, false] rfl rfl rfl rfl (two_of HT_.out zF7_12) zF7_28 zF7_28 (fun K hK => ?_) (fun K hK => ?_)
           ·skip
            refine goes_ Tryz.func46 zF7_12 rfl #[.agg #[.int .i64 ((rd_T41 l1 x7_1).f0.f0), .int .i64 ((rd_T41 l1 x7_1).f0.f1), .bool false, .int .i64 ((rd_T41 l1 x7_1).f2), .string ((rd_T41 l1 x7_1).f3)], .agg #[.int .i64 ((rd_T36 l0_1 x7_1).f1.f0), .int .i64 ((rd_T36 l0_1 x7_1).f1.f1)]] (by rfl) rfl rfl zF7_13 ?_
            with_reducible refine (colonnaderef02_Cast.calls k1 ((rd_T41 l1 x7_1).f0.f0) ((rd_T41 l1 x7_1).f0.f1) false ((rd_T41 l1 x7_1).f2) ((rd_T41 l1 x7_1).f3) ((rd_T36 l0_1 x7_1).f1.f0) ((rd_T36 l0_1 x7_1).f1.f1) t251 t252 t253 t254 t255 t256 _ A27.out).mono ?_
            rintro e w58 ⟨rfl, hb⟩
            refine ⟨_, rfl, ?_⟩
            have n0_ := Aside0.mk (Kd.R_below zF7_10 hb)
            have n1_ := Aside0.mk (blk_below (g := gb236) (o := .cells #[.string a0_0, .slice (some ad237) l0_1.length c0_1] 24 (0, 0)) zF7_0 hb)
            have n2_ := Aside0.mk (blk_below (g := gb238) (o := .cells #[.string ((rd_T36 l0_1 x7_1).f0), .int .i64 ((rd_T36 l0_1 x7_1).f1.f0), .int .i64 ((rd_T36 l0_1 x7_1).f1.f1), .bool ((rd_T36 l0_1 x7_1).f2)] 36 (0, 0)) zF7_6 hb)
            have n3_ := Aside0.mk (below_step zF7_1 hb)
            clear HO_6
            clear BK236
            clear BK238
            clear HB
            have HO_6 := n0_
            have BK236 := n1_
            have BK238 := n2_
            have HB := n3_
            clear n0_ n1_ n2_ n3_
            (try clear hb)
            (try clear hb2)
            (try clear hk)
            (try clear hi)
            refine hK.out _ _ ⟨(blk_cell BK238.out 0).trans rfl, (blk_cell BK238.out 1).trans rfl, (blk_cell BK238.out 2).trans rfl, (blk_cell BK238.out 3).trans rfl, ((HB.out.cell (World.block_lt_of_cell? w _ hw250_0)).trans zF7_15), ((HB.out.cell (World.block_lt_of_cell? w _ hw250_1)).trans zF7_16), ((HB.out.cell (World.block_lt_of_cell? w _ hw250_2)).trans zF7_17), ((HB.out.cell (World.block_lt_of_cell? w _ hw250_3)).trans zF7_18), ((HB.out.cell (World.block_lt_of_cell? w _ hw250_4)).trans zF7_19)⟩ (fun hHeld => ?_)
            clear hK K
            refine norm_ (a' := ?_) ?_ ?_
            rotate_left
            ·show Act.put _ (some 57) _ = _
             simp only [Act.put, List.setIfInBounds_toArray, List.set_cons_zero, List.set_cons_succ, i64_w, i32_w]
             rfl
            refine pure_ (i := 7) (N := some 50) (v := ?_) (a' := ?_) #[true, true, true, true, true, true, true, true, false, false, false, false, false] rfl rfl (any_of HT_.out zF7_12) (fun _ _ _ h => h) (Or.inl ⟨by rfl, ?_⟩) ?_ ?_
            rotate_left
            ·intro w'
             go_simp
             with_reducible rfl
            rotate_left
            ·simp only [Act.put, List.setIfInBounds_toArray, List.set_cons_zero, List.set_cons_succ, i64_w, i32_w]
             rfl
            refine pure_ (i := 8) (N := some 58) (v := ?_) (a' := ?_) #[true, true, true, true, true, true, true, true, true, false, false, false, false] rfl rfl (any_of HT_.out zF7_12) (fun _ _ _ h => h) (Or.inl ⟨by rfl, ?_⟩) ?_ ?_
            rotate_left
            ·intro w'
             go_simp
             with_reducible rfl
            rotate_left
            ·simp only [Act.put, List.setIfInBounds_toArray, List.set_cons_zero, List.set_cons_succ, i64_w, i32_w]
             rfl
            refine pure_ (i := 9) (N := some 59) (v := ?_) (a' := ?_) #[true, true, true, true, true, true, true, true, true, true, false, false, false] rfl rfl (any_of HT_.out zF7_12) (fun _ _ _ h => h) (Or.inl ⟨by rfl, ?_⟩) ?_ ?_
            rotate_left
            ·intro w'
             go_simp
             with_reducible rfl
            rotate_left
            ·simp only [Act.put, List.setIfInBounds_toArray, List.set_cons_zero, List.set_cons_succ, i64_w, i32_w]
             rfl
            refine one_ (i := 10) (N := some 9) #[true, true, true, true, true, true, true, true, true, true, true, false, false] rfl rfl (one_of HT_.out zF7_12) zF7_28 (fun K hK => ?_)
            refine box_step ?hg (N := 9) ?hd (cs := #[.int .i64 0, .int .i64 0, .bool false, .int .i64 0, .string (⟨#[]⟩ : ByteArray)]) (t := 41) ?hr ?_; (case hd => rfl); (case hg => rfl); (case hr => first | (go_simp; done) | (go_simp; rfl))
            intro gb257 hg w59 hbox hb
            have n0_ := Aside0.mk (Kd.R_below (Kd.R_elderB zF7_10 gb257 (Nat.le_of_eq hg.symm)) hb)
            have n1_ := Aside0.mk (blk_below (g := gb236) (o := .cells #[.string a0_0, .slice (some ad237) l0_1.length c0_1] 24 (0, 0)) zF7_0 hb)
            have n2_ := Aside0.mk (blk_below (g := gb238) (o := .cells #[.string ((rd_T36 l0_1 x7_1).f0), .int .i64 ((rd_T36 l0_1 x7_1).f1.f0), .int .i64 ((rd_T36 l0_1 x7_1).f1.f1), .bool ((rd_T36 l0_1 x7_1).f2)] 36 (0, 0)) zF7_6 hb)
            have n3_ := Aside0.mk (below_step zF7_1 hb)
            have n4_ := Aside0.mk (hbox)
            have n5_ := Aside0.mk ((zF7_35 : w.heap.size ≤ gb257))
            have n6_ := Aside0.mk ((zF7_35 : w.heap.size ≤ gb257))
            have n7_ := Aside0.mk ((zF7_30 : gb236 ≠ gb257))
            have n8_ := Aside0.mk ((zF7_31 : gb257 ≠ gb236))
            have n9_ := Aside0.mk ((zF7_32 : gb238 ≠ gb257))
            have n10_ := Aside0.mk ((zF7_33 : gb257 ≠ gb238))
            clear HO_6
            clear BK236
            clear BK238
            clear HB
            have HO_6 := n0_
            have BK236 := n1_
            have BK238 := n2_
            have HB := n3_
            have BK257 := n4_
            have GW257 := n5_
            have GE257 := n6_
            have NB236_257 := n7_
            have NB257_236 := n8_
            have NB238_257 := n9_
            have NB257_238 := n10_
            clear n0_ n1_ n2_ n3_ n4_ n5_ n6_ n7_ n8_ n9_ n10_
            clear hb hbox hg
            refine hK.out _ _ ⟨(blk_cell BK238.out 0).trans rfl, (blk_cell BK238.out 1).trans rfl, (blk_cell BK238.out 2).trans rfl, (blk_cell BK238.out 3).trans rfl, ((HB.out.cell (World.block_lt_of_cell? w _ hw250_0)).trans zF7_15), ((HB.out.cell (World.block_lt_of_cell? w _ hw250_1)).trans zF7_16), ((HB.out.cell (World.block_lt_of_cell? w _ hw250_2)).trans zF7_17), ((HB.out.cell (World.block_lt_of_cell? w _ hw250_3)).trans zF7_18), ((HB.out.cell (World.block_lt_of_cell? w _ hw250_4)).trans zF7_19)⟩ (fun hHeld => ?_)
            clear hK K
            refine norm_ (a' := ?_) ?_ ?_
            rotate_left
            ·show Act.put _ (some 9) _ = _
             simp only [Act.put, List.setIfInBounds_toArray, List.set_cons_zero, List.set_cons_succ, i64_w, i32_w]
             rfl
            exact norm_ zF7_22 (hCont (gb257) _ ⟨hHeld, zF7_20, zF7_0, zF7_6, zF7_14, GW257.out, GE257.out, NB236_257.out, NB257_236.out, NB238_257.out, NB257_238.out, zF7_9⟩)
           ·skip
            refine box_step ?hg (N := 9) ?hd (cs := #[.int .i64 0, .int .i64 0, .bool false, .int .i64 0, .string (⟨#[]⟩ : ByteArray)]) (t := 41) ?hr ?_; (case hd => rfl); (case hg => rfl); (case hr => first | (go_simp; done) | (go_simp; rfl))
            intro gb257 hg w58 hbox hb
            have n0_ := Aside0.mk (Kd.R_below (Kd.R_elderB zF7_10 gb257 (Nat.le_of_eq hg.symm)) hb)
            have n1_ := Aside0.mk (blk_below (g := gb236) (o := .cells #[.string a0_0, .slice (some ad237) l0_1.length c0_1] 24 (0, 0)) zF7_0 hb)
            have n2_ := Aside0.mk (blk_below (g := gb238) (o := .cells #[.string ((rd_T36 l0_1 x7_1).f0), .int .i64 ((rd_T36 l0_1 x7_1).f1.f0), .int .i64 ((rd_T36 l0_1 x7_1).f1.f1), .bool ((rd_T36 l0_1 x7_1).f2)] 36 (0, 0)) zF7_6 hb)
            have n3_ := Aside0.mk (below_step zF7_1 hb)
            have n4_ := Aside0.mk (hbox)
            have n5_ := Aside0.mk ((zF7_35 : w.heap.size ≤ gb257))
            have n6_ := Aside0.mk ((zF7_35 : w.heap.size ≤ gb257))
            have n7_ := Aside0.mk ((zF7_30 : gb236 ≠ gb257))
            have n8_ := Aside0.mk ((zF7_31 : gb257 ≠ gb236))
            have n9_ := Aside0.mk ((zF7_32 : gb238 ≠ gb257))
            have n10_ := Aside0.mk ((zF7_33 : gb257 ≠ gb238))
            clear HO_6
            clear BK236
            clear BK238
            clear HB
            have HO_6 := n0_
            have BK236 := n1_
            have BK238 := n2_
            have HB := n3_
            have BK257 := n4_
            have GW257 := n5_
            have GE257 := n6_
            have NB236_257 := n7_
            have NB257_236 := n8_
            have NB238_257 := n9_
            have NB257_238 := n10_
            clear n0_ n1_ n2_ n3_ n4_ n5_ n6_ n7_ n8_ n9_ n10_
            clear hb hbox hg
            refine hK.out _ _ ⟨(blk_cell BK238.out 0).trans rfl, (blk_cell BK238.out 1).trans rfl, (blk_cell BK238.out 2).trans rfl, (blk_cell BK238.out 3).trans rfl, ((HB.out.cell (World.block_lt_of_cell? w _ hw250_0)).trans zF7_15), ((HB.out.cell (World.block_lt_of_cell? w _ hw250_1)).trans zF7_16), ((HB.out.cell (World.block_lt_of_cell? w _ hw250_2)).trans zF7_17), ((HB.out.cell (World.block_lt_of_cell? w _ hw250_3)).trans zF7_18), ((HB.out.cell (World.block_lt_of_cell? w _ hw250_4)).trans zF7_19)⟩ (fun hHeld => ?_)
            clear hK K
            refine norm_ (a' := ?_) ?_ ?_
            rotate_left
            ·show Act.put _ (some 9) _ = _
             simp only [Act.put, List.setIfInBounds_toArray, List.set_cons_zero, List.set_cons_succ, i64_w, i32_w]
             rfl
            refine one_ (i := 6) (N := some 57) #[true, true, true, true, true, true, true, false, false, false, true, false, false] rfl rfl (one_of HT_.out zF7_12) zF7_28 (fun K hK => ?_)
            refine goes_ Tryz.func46 zF7_12 rfl #[.agg #[.int .i64 ((rd_T41 l1 x7_1).f0.f0), .int .i64 ((rd_T41 l1 x7_1).f0.f1), .bool false, .int .i64 ((rd_T41 l1 x7_1).f2), .string ((rd_T41 l1 x7_1).f3)], .agg #[.int .i64 ((rd_T36 l0_1 x7_1).f1.f0), .int .i64 ((rd_T36 l0_1 x7_1).f1.f1)]] (by rfl) rfl rfl zF7_13 ?_
            with_reducible refine (colonnaderef02_Cast.calls k1 ((rd_T41 l1 x7_1).f0.f0) ((rd_T41 l1 x7_1).f0.f1) false ((rd_T41 l1 x7_1).f2) ((rd_T41 l1 x7_1).f3) ((rd_T36 l0_1 x7_1).f1.f0) ((rd_T36 l0_1 x7_1).f1.f1) t251 t252 t253 t254 t255 t256 _ A27.out).mono ?_
            rintro e w59 ⟨rfl, hb⟩
            refine ⟨_, rfl, ?_⟩
            have n0_ := Aside0.mk (Kd.R_below zF7_10 hb)
            have n1_ := Aside0.mk (blk_below (g := gb236) (o := .cells #[.string a0_0, .slice (some ad237) l0_1.length c0_1] 24 (0, 0)) zF7_0 hb)
            have n2_ := Aside0.mk (blk_below (g := gb238) (o := .cells #[.string ((rd_T36 l0_1 x7_1).f0), .int .i64 ((rd_T36 l0_1 x7_1).f1.f0), .int .i64 ((rd_T36 l0_1 x7_1).f1.f1), .bool ((rd_T36 l0_1 x7_1).f2)] 36 (0, 0)) zF7_6 hb)
            have n3_ := Aside0.mk (blk_below (g := gb257) (o := .cells #[.int .i64 0, .int .i64 0, .bool false, .int .i64 0, .string (⟨#[]⟩ : ByteArray)] 41 (0, 0)) zF7_14 hb)
            have n4_ := Aside0.mk (below_step zF7_9 hb)
            clear HO_6
            clear BK236
            clear BK238
            clear BK257
            clear HB
            have HO_6 := n0_
            have BK236 := n1_
            have BK238 := n2_
            have BK257 := n3_
            have HB := n4_
            clear n0_ n1_ n2_ n3_ n4_
            (try clear hb)
            (try clear hb2)
            (try clear hk)
            (try clear hi)
            refine hK.out _ _ ⟨(blk_cell BK238.out 0).trans rfl, (blk_cell BK238.out 1).trans rfl, (blk_cell BK238.out 2).trans rfl, (blk_cell BK238.out 3).trans rfl, ((HB.out.cell (World.block_lt_of_cell? w _ hw250_0)).trans zF7_15), ((HB.out.cell (World.block_lt_of_cell? w _ hw250_1)).trans zF7_16), ((HB.out.cell (World.block_lt_of_cell? w _ hw250_2)).trans zF7_17), ((HB.out.cell (World.block_lt_of_cell? w _ hw250_3)).trans zF7_18), ((HB.out.cell (World.block_lt_of_cell? w _ hw250_4)).trans zF7_19)⟩ (fun hHeld => ?_)
            clear hK K
            refine norm_ (a' := ?_) ?_ ?_
            rotate_left
            ·show Act.put _ (some 57) _ = _
             simp only [Act.put, List.setIfInBounds_toArray, List.set_cons_zero, List.set_cons_succ, i64_w, i32_w]
             rfl
            refine pure_ (i := 7) (N := some 50) (v := ?_) (a' := ?_) #[true, true, true, true, true, true, true, true, false, false, true, false, false] rfl rfl (any_of HT_.out zF7_12) (fun _ _ _ h => h) (Or.inl ⟨by rfl, ?_⟩) ?_ ?_
            rotate_left
            ·intro w'
             go_simp
             with_reducible rfl
            rotate_left
            ·simp only [Act.put, List.setIfInBounds_toArray, List.set_cons_zero, List.set_cons_succ, i64_w, i32_w]
             rfl
            refine pure_ (i := 8) (N := some 58) (v := ?_) (a' := ?_) #[true, true, true, true, true, true, true, true, true, false, true, false, false] rfl rfl (any_of HT_.out zF7_12) (fun _ _ _ h => h) (Or.inl ⟨by rfl, ?_⟩) ?_ ?_
            rotate_left
            ·intro w'
             go_simp
             with_reducible rfl
            rotate_left
            ·simp only [Act.put, List.setIfInBounds_toArray, List.set_cons_zero, List.set_cons_succ, i64_w, i32_w]
             rfl
            refine pure_ (i := 9) (N := some 59) (v := ?_) (a' := ?_) #[true, true, true, true, true, true, true, true, true, true, true, false, false] rfl rfl (any_of HT_.out zF7_12) (fun _ _ _ h => h) (Or.inl ⟨by rfl, ?_⟩) ?_ ?_
            rotate_left
            ·intro w'
             go_simp
             with_reducible rfl
            rotate_left
            ·simp only [Act.put, List.setIfInBounds_toArray, List.set_cons_zero, List.set_cons_succ, i64_w, i32_w]
             rfl
            exact norm_ zF7_22 (hCont (gb257) _ ⟨hHeld, zF7_20, zF7_0, zF7_6, zF7_14, GW257.out, GE257.out, NB236_257.out, NB257_236.out, NB238_257.out, NB257_238.out, zF7_9⟩)
          rintro gb257 w60 ⟨hS_, h0_, h1_, h2_, h3_, h4_, h5_, h6_, h7_, h8_, h9_, h10_⟩
          have n0_ : Aside0 (Kd.R k41 41 w60 w.heap.size (fun k_ => k_ ≠ gb257) u6 x6_1) := ⟨h0_⟩
          have n1_ : Aside0 (w60.heap[gb236]? = some (.cells #[.string a0_0, .slice (some ad237) l0_1.length c0_1] 24 (0, 0))) := ⟨h1_⟩
          have n2_ : Aside0 (w60.heap[gb238]? = some (.cells #[.string ((rd_T36 l0_1 x7_1).f0), .int .i64 ((rd_T36 l0_1 x7_1).f1.f0), .int .i64 ((rd_T36 l0_1 x7_1).f1.f1), .bool ((rd_T36 l0_1 x7_1).f2)] 36 (0, 0))) := ⟨h2_⟩
          have n3_ : Aside0 (w60.heap[gb257]? = some (.cells #[.int .i64 0, .int .i64 0, .bool false, .int .i64 0, .string (⟨#[]⟩ : ByteArray)] 41 (0, 0))) := ⟨h3_⟩
          have n4_ : Aside0 (w.heap.size ≤ gb257) := ⟨h4_⟩
          have n5_ : Aside0 (w.heap.size ≤ gb257) := ⟨h5_⟩
          have n6_ : Aside0 (gb236 ≠ gb257) := ⟨h6_⟩
          have n7_ : Aside0 (gb257 ≠ gb236) := ⟨h7_⟩
          have n8_ : Aside0 (gb238 ≠ gb257) := ⟨h8_⟩
          have n9_ : Aside0 (gb257 ≠ gb238) := ⟨h9_⟩
          have n10_ : Aside0 (Below w.heap.size w w60) := ⟨h10_⟩
          clear HO_6
          clear BK236
          clear BK238
          clear HB
          clear h0_ h1_ h2_ h3_ h4_ h5_ h6_ h7_ h8_ h9_ h10_
          have HO_6 := n0_
          have BK236 := n1_
          have BK238 := n2_
          have BK257 := n3_
          have GW257 := n4_
          have GE257 := n5_
          have NB236_257 := n6_
          have NB257_236 := n7_
          have NB238_257 := n8_
          have NB257_238 := n9_
          have HB := n10_
          clear n0_ n1_ n2_ n3_ n4_ n5_ n6_ n7_ n8_ n9_ n10_
          have hHeld : w60.cell? ⟨gb238, 0, none⟩ = some (.string ((rd_T36 l0_1 x7_1).f0)) ∧ w60.cell? ⟨gb238, 1, none⟩ = some (.int .i64 ((rd_T36 l0_1 x7_1).f1.f0)) ∧ w60.cell? ⟨gb238, 2, none⟩ = some (.int .i64 ((rd_T36 l0_1 x7_1).f1.f1)) ∧ w60.cell? ⟨gb238, 3, none⟩ = some (.bool ((rd_T36 l0_1 x7_1).f2)) ∧ w60.cell? (ad239.add ((x7_1).toNat * 5)) = some (.int .i64 ((rd_T41 l1 x7_1).f0.f0)) ∧ w60.cell? ⟨(ad239.add ((x7_1).toNat * 5)).block, (ad239.add ((x7_1).toNat * 5)).off + 1, none⟩ = some (.int .i64 ((rd_T41 l1 x7_1).f0.f1)) ∧ w60.cell? ⟨(ad239.add ((x7_1).toNat * 5)).block, (ad239.add ((x7_1).toNat * 5)).off + 2, none⟩ = some (.bool (false)) ∧ w60.cell? ⟨(ad239.add ((x7_1).toNat * 5)).block, (ad239.add ((x7_1).toNat * 5)).off + 3, none⟩ = some (.int .i64 ((rd_T41 l1 x7_1).f2)) ∧ w60.cell? ⟨(ad239.add ((x7_1).toNat * 5)).block, (ad239.add ((x7_1).toNat * 5)).off + 4, none⟩ = some (.string ((rd_T41 l1 x7_1).f3)) := hS_
          refine norm_ (a' := ?_) ?_ ?_
          rotate_left
          ·simp only [putAll, Act.put, List.setIfInBounds_toArray, List.set_cons_zero, List.set_cons_succ]
           rfl
          refine one_ (i := 11) (N := none) #[true, true, true, true, true, true, true, true, true, true, true, true, false] rfl rfl (one_of HT_.out zF7_12) zF7_28 (fun K hK => ?_)
          have hs61 : w60.cell? ⟨gb257, 0, none⟩ = some (.int .i64 0) := (blk_cell BK257.out 0).trans rfl
          have hfs61 := blk_frozen BK257.out 0
          have hns61_0 := NB236_257.out
          have hns61_1 := NB238_257.out
          have hms61_0 := NB257_236.out
          have hms61_1 := NB257_238.out
          have hs62 : w60.cell? ⟨gb257, 1, none⟩ = some (.int .i64 0) := (blk_cell BK257.out 1).trans rfl
          have hfs62 := blk_frozen BK257.out 1
          have hns62_0 := NB236_257.out
          have hns62_1 := NB238_257.out
          have hms62_0 := NB257_236.out
          have hms62_1 := NB257_238.out
          have hs63 : w60.cell? ⟨gb257, 2, none⟩ = some (.bool false) := (blk_cell BK257.out 2).trans rfl
          have hfs63 := blk_frozen BK257.out 2
          have hns63_0 := NB236_257.out
          have hns63_1 := NB238_257.out
          have hms63_0 := NB257_236.out
          have hms63_1 := NB257_238.out
          have hs64 : w60.cell? ⟨gb257, 3, none⟩ = some (.int .i64 0) := (blk_cell BK257.out 3).trans rfl
          have hfs64 := blk_frozen BK257.out 3
          have hns64_0 := NB236_257.out
          have hns64_1 := NB238_257.out
          have hms64_0 := NB257_236.out
          have hms64_1 := NB257_238.out
          have hs65 : w60.cell? ⟨gb257, 4, none⟩ = some (.string (⟨#[]⟩ : ByteArray)) := (blk_cell BK257.out 4).trans rfl
          have hfs65 := blk_frozen BK257.out 4
          have hns65_0 := NB236_257.out
          have hns65_1 := NB238_257.out
          have hms65_0 := NB257_236.out
          have hms65_1 := NB257_238.out
          refine skip_ (w1 := ?_) (by rfl) rfl ?_ ?_
          rotate_left
          ·go_simp
           rfl
          refine hK.out _ _ ⟨((cell_far (p := ⟨gb257, _, none⟩) NB238_257.out _).trans (((cell_far (p := ⟨gb257, _, none⟩) NB238_257.out _).trans (((cell_far (p := ⟨gb257, _, none⟩) NB238_257.out _).trans (((cell_far (p := ⟨gb257, _, none⟩) NB238_257.out _).trans (((cell_far (p := ⟨gb257, _, none⟩) NB238_257.out _).trans (hHeld.1)))))))))), ((cell_far (p := ⟨gb257, _, none⟩) NB238_257.out _).trans (((cell_far (p := ⟨gb257, _, none⟩) NB238_257.out _).trans (((cell_far (p := ⟨gb257, _, none⟩) NB238_257.out _).trans (((cell_far (p := ⟨gb257, _, none⟩) NB238_257.out _).trans (((cell_far (p := ⟨gb257, _, none⟩) NB238_257.out _).trans (hHeld.2.1)))))))))), ((cell_far (p := ⟨gb257, _, none⟩) NB238_257.out _).trans (((cell_far (p := ⟨gb257, _, none⟩) NB238_257.out _).trans (((cell_far (p := ⟨gb257, _, none⟩) NB238_257.out _).trans (((cell_far (p := ⟨gb257, _, none⟩) NB238_257.out _).trans (((cell_far (p := ⟨gb257, _, none⟩) NB238_257.out _).trans (hHeld.2.2.1)))))))))), ((cell_far (p := ⟨gb257, _, none⟩) NB238_257.out _).trans (((cell_far (p := ⟨gb257, _, none⟩) NB238_257.out _).trans (((cell_far (p := ⟨gb257, _, none⟩) NB238_257.out _).trans (((cell_far (p := ⟨gb257, _, none⟩) NB238_257.out _).trans (((cell_far (p := ⟨gb257, _, none⟩) NB238_257.out _).trans (hHeld.2.2.2.1)))))))))), ((cell_far (p := ⟨gb257, _, none⟩) (by first | exact Nat.ne_of_lt (Nat.lt_of_lt_of_le (by have := World.block_lt_of_cell? _ _ hw250_0; first | rwa [add_block] at this | exact this) GW257.out) | (rw [add_block]; exact Nat.ne_of_lt (Nat.lt_of_lt_of_le (by have := World.block_lt_of_cell? _ _ hw250_0; first | rwa [add_block] at this | exact this) GW257.out)) | (show (Addr.add _ _).block ≠ _; rw [add_block]; exact Nat.ne_of_lt (Nat.lt_of_lt_of_le (by have := World.block_lt_of_cell? _ _ hw250_0; first | rwa [add_block] at this | exact this) GW257.out)) | (dsimp only; exact Nat.ne_of_lt (Nat.lt_of_lt_of_le (by have := World.block_lt_of_cell? _ _ hw250_0; first | rwa [add_block] at this | exact this) GW257.out))) _).trans (((cell_far (p := ⟨gb257, _, none⟩) (by first | exact Nat.ne_of_lt (Nat.lt_of_lt_of_le (by have := World.block_lt_of_cell? _ _ hw250_0; first | rwa [add_block] at this | exact this) GW257.out) | (rw [add_block]; exact Nat.ne_of_lt (Nat.lt_of_lt_of_le (by have := World.block_lt_of_cell? _ _ hw250_0; first | rwa [add_block] at this | exact this) GW257.out)) | (show (Addr.add _ _).block ≠ _; rw [add_block]; exact Nat.ne_of_lt (Nat.lt_of_lt_of_le (by have := World.block_lt_of_cell? _ _ hw250_0; first | rwa [add_block] at this | exact this) GW257.out)) | (dsimp only; exact Nat.ne_of_lt (Nat.lt_of_lt_of_le (by have := World.block_lt_of_cell? _ _ hw250_0; first | rwa [add_block] at this | exact this) GW257.out))) _).trans (((cell_far (p := ⟨gb257, _, none⟩) (by first | exact Nat.ne_of_lt (Nat.lt_of_lt_of_le (by have := World.block_lt_of_cell? _ _ hw250_0; first | rwa [add_block] at this | exact this) GW257.out) | (rw [add_block]; exact Nat.ne_of_lt (Nat.lt_of_lt_of_le (by have := World.block_lt_of_cell? _ _ hw250_0; first | rwa [add_block] at this | exact this) GW257.out)) | (show (Addr.add _ _).block ≠ _; rw [add_block]; exact Nat.ne_of_lt (Nat.lt_of_lt_of_le (by have := World.block_lt_of_cell? _ _ hw250_0; first | rwa [add_block] at this | exact this) GW257.out)) | (dsimp only; exact Nat.ne_of_lt (Nat.lt_of_lt_of_le (by have := World.block_lt_of_cell? _ _ hw250_0; first | rwa [add_block] at this | exact this) GW257.out))) _).trans (((cell_far (p := ⟨gb257, _, none⟩) (by first | exact Nat.ne_of_lt (Nat.lt_of_lt_of_le (by have := World.block_lt_of_cell? _ _ hw250_0; first | rwa [add_block] at this | exact this) GW257.out) | (rw [add_block]; exact Nat.ne_of_lt (Nat.lt_of_lt_of_le (by have := World.block_lt_of_cell? _ _ hw250_0; first | rwa [add_block] at this | exact this) GW257.out)) | (show (Addr.add _ _).block ≠ _; rw [add_block]; exact Nat.ne_of_lt (Nat.lt_of_lt_of_le (by have := World.block_lt_of_cell? _ _ hw250_0; first | rwa [add_block] at this | exact this) GW257.out)) | (dsimp only; exact Nat.ne_of_lt (Nat.lt_of_lt_of_le (by have := World.block_lt_of_cell? _ _ hw250_0; first | rwa [add_block] at this | exact this) GW257.out))) _).trans (((cell_far (p := ⟨gb257, _, none⟩) (by first | exact Nat.ne_of_lt (Nat.lt_of_lt_of_le (by have := World.block_lt_of_cell? _ _ hw250_0; first | rwa [add_block] at this | exact this) GW257.out) | (rw [add_block]; exact Nat.ne_of_lt (Nat.lt_of_lt_of_le (by have := World.block_lt_of_cell? _ _ hw250_0; first | rwa [add_block] at this | exact this) GW257.out)) | (show (Addr.add _ _).block ≠ _; rw [add_block]; exact Nat.ne_of_lt (Nat.lt_of_lt_of_le (by have := World.block_lt_of_cell? _ _ hw250_0; first | rwa [add_block] at this | exact this) GW257.out)) | (dsimp only; exact Nat.ne_of_lt (Nat.lt_of_lt_of_le (by have := World.block_lt_of_cell? _ _ hw250_0; first | rwa [add_block] at this | exact this) GW257.out))) _).trans (hHeld.2.2.2.2.1)))))))))), ((cell_far (p := ⟨gb257, _, none⟩) (by first | exact Nat.ne_of_lt (Nat.lt_of_lt_of_le (by have := World.block_lt_of_cell? _ _ hw250_1; first | rwa [add_block] at this | exact this) GW257.out) | (rw [add_block]; exact Nat.ne_of_lt (Nat.lt_of_lt_of_le (by have := World.block_lt_of_cell? _ _ hw250_1; first | rwa [add_block] at this | exact this) GW257.out)) | (show (Addr.add _ _).block ≠ _; rw [add_block]; exact Nat.ne_of_lt (Nat.lt_of_lt_of_le (by have := World.block_lt_of_cell? _ _ hw250_1; first | rwa [add_block] at this | exact this) GW257.out)) | (dsimp only; exact Nat.ne_of_lt (Nat.lt_of_lt_of_le (by have := World.block_lt_of_cell? _ _ hw250_1; first | rwa [add_block] at this | exact this) GW257.out))) _).trans (((cell_far (p := ⟨gb257, _, none⟩) (by first | exact Nat.ne_of_lt (Nat.lt_of_lt_of_le (by have := World.block_lt_of_cell? _ _ hw250_1; first | rwa [add_block] at this | exact this) GW257.out) | (rw [add_block]; exact Nat.ne_of_lt (Nat.lt_of_lt_of_le (by have := World.block_lt_of_cell? _ _ hw250_1; first | rwa [add_block] at this | exact this) GW257.out)) | (show (Addr.add _ _).block ≠ _; rw [add_block]; exact Nat.ne_of_lt (Nat.lt_of_lt_of_le (by have := World.block_lt_of_cell? _ _ hw250_1; first | rwa [add_block] at this | exact this) GW257.out)) | (dsimp only; exact Nat.ne_of_lt (Nat.lt_of_lt_of_le (by have := World.block_lt_of_cell? _ _ hw250_1; first | rwa [add_block] at this | exact this) GW257.out))) _).trans (((cell_far (p := ⟨gb257, _, none⟩) (by first | exact Nat.ne_of_lt (Nat.lt_of_lt_of_le (by have := World.block_lt_of_cell? _ _ hw250_1; first | rwa [add_block] at this | exact this) GW257.out) | (rw [add_block]; exact Nat.ne_of_lt (Nat.lt_of_lt_of_le (by have := World.block_lt_of_cell? _ _ hw250_1; first | rwa [add_block] at this | exact this) GW257.out)) | (show (Addr.add _ _).block ≠ _; rw [add_block]; exact Nat.ne_of_lt (Nat.lt_of_lt_of_le (by have := World.block_lt_of_cell? _ _ hw250_1; first | rwa [add_block] at this | exact this) GW257.out)) | (dsimp only; exact Nat.ne_of_lt (Nat.lt_of_lt_of_le (by have := World.block_lt_of_cell? _ _ hw250_1; first | rwa [add_block] at this | exact this) GW257.out))) _).trans (((cell_far (p := ⟨gb257, _, none⟩) (by first | exact Nat.ne_of_lt (Nat.lt_of_lt_of_le (by have := World.block_lt_of_cell? _ _ hw250_1; first | rwa [add_block] at this | exact this) GW257.out) | (rw [add_block]; exact Nat.ne_of_lt (Nat.lt_of_lt_of_le (by have := World.block_lt_of_cell? _ _ hw250_1; first | rwa [add_block] at this | exact this) GW257.out)) | (show (Addr.add _ _).block ≠ _; rw [add_block]; exact Nat.ne_of_lt (Nat.lt_of_lt_of_le (by have := World.block_lt_of_cell? _ _ hw250_1; first | rwa [add_block] at this | exact this) GW257.out)) | (dsimp only; exact Nat.ne_of_lt (Nat.lt_of_lt_of_le (by have := World.block_lt_of_cell? _ _ hw250_1; first | rwa [add_block] at this | exact this) GW257.out))) _).trans (((cell_far (p := ⟨gb257, _, none⟩) (by first | exact Nat.ne_of_lt (Nat.lt_of_lt_of_le (by have := World.block_lt_of_cell? _ _ hw250_1; first | rwa [add_block] at this | exact this) GW257.out) | (rw [add_block]; exact Nat.ne_of_lt (Nat.lt_of_lt_of_le (by have := World.block_lt_of_cell? _ _ hw250_1; first | rwa [add_block] at this | exact this) GW257.out)) | (show (Addr.add _ _).block ≠ _; rw [add_block]; exact Nat.ne_of_lt (Nat.lt_of_lt_of_le (by have := World.block_lt_of_cell? _ _ hw250_1; first | rwa [add_block] at this | exact this) GW257.out)) | (dsimp only; exact Nat.ne_of_lt (Nat.lt_of_lt_of_le (by have := World.block_lt_of_cell? _ _ hw250_1; first | rwa [add_block] at this | exact this) GW257.out))) _).trans (hHeld.2.2.2.2.2.1)))))))))), ((cell_far (p := ⟨gb257, _, none⟩) (by first | exact Nat.ne_of_lt (Nat.lt_of_lt_of_le (by have := World.block_lt_of_cell? _ _ hw250_2; first | rwa [add_block] at this | exact this) GW257.out) | (rw [add_block]; exact Nat.ne_of_lt (Nat.lt_of_lt_of_le (by have := World.block_lt_of_cell? _ _ hw250_2; first | rwa [add_block] at this | exact this) GW257.out)) | (show (Addr.add _ _).block ≠ _; rw [add_block]; exact Nat.ne_of_lt (Nat.lt_of_lt_of_le (by have := World.block_lt_of_cell? _ _ hw250_2; first | rwa [add_block] at this | exact this) GW257.out)) | (dsimp only; exact Nat.ne_of_lt (Nat.lt_of_lt_of_le (by have := World.block_lt_of_cell? _ _ hw250_2; first | rwa [add_block] at this | exact this) GW257.out))) _).trans (((cell_far (p := ⟨gb257, _, none⟩) (by first | exact Nat.ne_of_lt (Nat.lt_of_lt_of_le (by have := World.block_lt_of_cell? _ _ hw250_2; first | rwa [add_block] at this | exact this) GW257.out) | (rw [add_block]; exact Nat.ne_of_lt (Nat.lt_of_lt_of_le (by have := World.block_lt_of_cell? _ _ hw250_2; first | rwa [add_block] at this | exact this) GW257.out)) | (show (Addr.add _ _).block ≠ _; rw [add_block]; exact Nat.ne_of_lt (Nat.lt_of_lt_of_le (by have := World.block_lt_of_cell? _ _ hw250_2; first | rwa [add_block] at this | exact this) GW257.out)) | (dsimp only; exact Nat.ne_of_lt (Nat.lt_of_lt_of_le (by have := World.block_lt_of_cell? _ _ hw250_2; first | rwa [add_block] at this | exact this) GW257.out))) _).trans (((cell_far (p := ⟨gb257, _, none⟩) (by first | exact Nat.ne_of_lt (Nat.lt_of_lt_of_le (by have := World.block_lt_of_cell? _ _ hw250_2; first | rwa [add_block] at this | exact this) GW257.out) | (rw [add_block]; exact Nat.ne_of_lt (Nat.lt_of_lt_of_le (by have := World.block_lt_of_cell? _ _ hw250_2; first | rwa [add_block] at this | exact this) GW257.out)) | (show (Addr.add _ _).block ≠ _; rw [add_block]; exact Nat.ne_of_lt (Nat.lt_of_lt_of_le (by have := World.block_lt_of_cell? _ _ hw250_2; first | rwa [add_block] at this | exact this) GW257.out)) | (dsimp only; exact Nat.ne_of_lt (Nat.lt_of_lt_of_le (by have := World.block_lt_of_cell? _ _ hw250_2; first | rwa [add_block] at this | exact this) GW257.out))) _).trans (((cell_far (p := ⟨gb257, _, none⟩) (by first | exact Nat.ne_of_lt (Nat.lt_of_lt_of_le (by have := World.block_lt_of_cell? _ _ hw250_2; first | rwa [add_block] at this | exact this) GW257.out) | (rw [add_block]; exact Nat.ne_of_lt (Nat.lt_of_lt_of_le (by have := World.block_lt_of_cell? _ _ hw250_2; first | rwa [add_block] at this | exact this) GW257.out)) | (show (Addr.add _ _).block ≠ _; rw [add_block]; exact Nat.ne_of_lt (Nat.lt_of_lt_of_le (by have := World.block_lt_of_cell? _ _ hw250_2; first | rwa [add_block] at this | exact this) GW257.out)) | (dsimp only; exact Nat.ne_of_lt (Nat.lt_of_lt_of_le (by have := World.block_lt_of_cell? _ _ hw250_2; first | rwa [add_block] at this | exact this) GW257.out))) _).trans (((cell_far (p := ⟨gb257, _, none⟩) (by first | exact Nat.ne_of_lt (Nat.lt_of_lt_of_le (by have := World.block_lt_of_cell? _ _ hw250_2; first | rwa [add_block] at this | exact this) GW257.out) | (rw [add_block]; exact Nat.ne_of_lt (Nat.lt_of_lt_of_le (by have := World.block_lt_of_cell? _ _ hw250_2; first | rwa [add_block] at this | exact this) GW257.out)) | (show (Addr.add _ _).block ≠ _; rw [add_block]; exact Nat.ne_of_lt (Nat.lt_of_lt_of_le (by have := World.block_lt_of_cell? _ _ hw250_2; first | rwa [add_block] at this | exact this) GW257.out)) | (dsimp only; exact Nat.ne_of_lt (Nat.lt_of_lt_of_le (by have := World.block_lt_of_cell? _ _ hw250_2; first | rwa [add_block] at this | exact this) GW257.out))) _).trans (hHeld.2.2.2.2.2.2.1)))))))))), ((cell_far (p := ⟨gb257, _, none⟩) (by first | exact Nat.ne_of_lt (Nat.lt_of_lt_of_le (by have := World.block_lt_of_cell? _ _ hw250_3; first | rwa [add_block] at this | exact this) GW257.out) | (rw [add_block]; exact Nat.ne_of_lt (Nat.lt_of_lt_of_le (by have := World.block_lt_of_cell? _ _ hw250_3; first | rwa [add_block] at this | exact this) GW257.out)) | (show (Addr.add _ _).block ≠ _; rw [add_block]; exact Nat.ne_of_lt (Nat.lt_of_lt_of_le (by have := World.block_lt_of_cell? _ _ hw250_3; first | rwa [add_block] at this | exact this) GW257.out)) | (dsimp only; exact Nat.ne_of_lt (Nat.lt_of_lt_of_le (by have := World.block_lt_of_cell? _ _ hw250_3; first | rwa [add_block] at this | exact this) GW257.out))) _).trans (((cell_far (p := ⟨gb257, _, none⟩) (by first | exact Nat.ne_of_lt (Nat.lt_of_lt_of_le (by have := World.block_lt_of_cell? _ _ hw250_3; first | rwa [add_block] at this | exact this) GW257.out) | (rw [add_block]; exact Nat.ne_of_lt (Nat.lt_of_lt_of_le (by have := World.block_lt_of_cell? _ _ hw250_3; first | rwa [add_block] at this | exact this) GW257.out)) | (show (Addr.add _ _).block ≠ _; rw [add_block]; exact Nat.ne_of_lt (Nat.lt_of_lt_of_le (by have := World.block_lt_of_cell? _ _ hw250_3; first | rwa [add_block] at this | exact this) GW257.out)) | (dsimp only; exact Nat.ne_of_lt (Nat.lt_of_lt_of_le (by have := World.block_lt_of_cell? _ _ hw250_3; first | rwa [add_block] at this | exact this) GW257.out))) _).trans (((cell_far (p := ⟨gb257, _, none⟩) (by first | exact Nat.ne_of_lt (Nat.lt_of_lt_of_le (by have := World.block_lt_of_cell? _ _ hw250_3; first | rwa [add_block] at this | exact this) GW257.out) | (rw [add_block]; exact Nat.ne_of_lt (Nat.lt_of_lt_of_le (by have := World.block_lt_of_cell? _ _ hw250_3; first | rwa [add_block] at this | exact this) GW257.out)) | (show (Addr.add _ _).block ≠ _; rw [add_block]; exact Nat.ne_of_lt (Nat.lt_of_lt_of_le (by have := World.block_lt_of_cell? _ _ hw250_3; first | rwa [add_block] at this | exact this) GW257.out)) | (dsimp only; exact Nat.ne_of_lt (Nat.lt_of_lt_of_le (by have := World.block_lt_of_cell? _ _ hw250_3; first | rwa [add_block] at this | exact this) GW257.out))) _).trans (((cell_far (p := ⟨gb257, _, none⟩) (by first | exact Nat.ne_of_lt (Nat.lt_of_lt_of_le (by have := World.block_lt_of_cell? _ _ hw250_3; first | rwa [add_block] at this | exact this) GW257.out) | (rw [add_block]; exact Nat.ne_of_lt (Nat.lt_of_lt_of_le (by have := World.block_lt_of_cell? _ _ hw250_3; first | rwa [add_block] at this | exact this) GW257.out)) | (show (Addr.add _ _).block ≠ _; rw [add_block]; exact Nat.ne_of_lt (Nat.lt_of_lt_of_le (by have := World.block_lt_of_cell? _ _ hw250_3; first | rwa [add_block] at this | exact this) GW257.out)) | (dsimp only; exact Nat.ne_of_lt (Nat.lt_of_lt_of_le (by have := World.block_lt_of_cell? _ _ hw250_3; first | rwa [add_block] at this | exact this) GW257.out))) _).trans (((cell_far (p := ⟨gb257, _, none⟩) (by first | exact Nat.ne_of_lt (Nat.lt_of_lt_of_le (by have := World.block_lt_of_cell? _ _ hw250_3; first | rwa [add_block] at this | exact this) GW257.out) | (rw [add_block]; exact Nat.ne_of_lt (Nat.lt_of_lt_of_le (by have := World.block_lt_of_cell? _ _ hw250_3; first | rwa [add_block] at this | exact this) GW257.out)) | (show (Addr.add _ _).block ≠ _; rw [add_block]; exact Nat.ne_of_lt (Nat.lt_of_lt_of_le (by have := World.block_lt_of_cell? _ _ hw250_3; first | rwa [add_block] at this | exact this) GW257.out)) | (dsimp only; exact Nat.ne_of_lt (Nat.lt_of_lt_of_le (by have := World.block_lt_of_cell? _ _ hw250_3; first | rwa [add_block] at this | exact this) GW257.out))) _).trans (hHeld.2.2.2.2.2.2.2.1)))))))))), ((cell_far (p := ⟨gb257, _, none⟩) (by first | exact Nat.ne_of_lt (Nat.lt_of_lt_of_le (by have := World.block_lt_of_cell? _ _ hw250_4; first | rwa [add_block] at this | exact this) GW257.out) | (rw [add_block]; exact Nat.ne_of_lt (Nat.lt_of_lt_of_le (by have := World.block_lt_of_cell? _ _ hw250_4; first | rwa [add_block] at this | exact this) GW257.out)) | (show (Addr.add _ _).block ≠ _; rw [add_block]; exact Nat.ne_of_lt (Nat.lt_of_lt_of_le (by have := World.block_lt_of_cell? _ _ hw250_4; first | rwa [add_block] at this | exact this) GW257.out)) | (dsimp only; exact Nat.ne_of_lt (Nat.lt_of_lt_of_le (by have := World.block_lt_of_cell? _ _ hw250_4; first | rwa [add_block] at this | exact this) GW257.out))) _).trans (((cell_far (p := ⟨gb257, _, none⟩) (by first | exact Nat.ne_of_lt (Nat.lt_of_lt_of_le (by have := World.block_lt_of_cell? _ _ hw250_4; first | rwa [add_block] at this | exact this) GW257.out) | (rw [add_block]; exact Nat.ne_of_lt (Nat.lt_of_lt_of_le (by have := World.block_lt_of_cell? _ _ hw250_4; first | rwa [add_block] at this | exact this) GW257.out)) | (show (Addr.add _ _).block ≠ _; rw [add_block]; exact Nat.ne_of_lt (Nat.lt_of_lt_of_le (by have := World.block_lt_of_cell? _ _ hw250_4; first | rwa [add_block] at this | exact this) GW257.out)) | (dsimp only; exact Nat.ne_of_lt (Nat.lt_of_lt_of_le (by have := World.block_lt_of_cell? _ _ hw250_4; first | rwa [add_block] at this | exact this) GW257.out))) _).trans (((cell_far (p := ⟨gb257, _, none⟩) (by first | exact Nat.ne_of_lt (Nat.lt_of_lt_of_le (by have := World.block_lt_of_cell? _ _ hw250_4; first | rwa [add_block] at this | exact this) GW257.out) | (rw [add_block]; exact Nat.ne_of_lt (Nat.lt_of_lt_of_le (by have := World.block_lt_of_cell? _ _ hw250_4; first | rwa [add_block] at this | exact this) GW257.out)) | (show (Addr.add _ _).block ≠ _; rw [add_block]; exact Nat.ne_of_lt (Nat.lt_of_lt_of_le (by have := World.block_lt_of_cell? _ _ hw250_4; first | rwa [add_block] at this | exact this) GW257.out)) | (dsimp only; exact Nat.ne_of_lt (Nat.lt_of_lt_of_le (by have := World.block_lt_of_cell? _ _ hw250_4; first | rwa [add_block] at this | exact this) GW257.out))) _).trans (((cell_far (p := ⟨gb257, _, none⟩) (by first | exact Nat.ne_of_lt (Nat.lt_of_lt_of_le (by have := World.block_lt_of_cell? _ _ hw250_4; first | rwa [add_block] at this | exact this) GW257.out) | (rw [add_block]; exact Nat.ne_of_lt (Nat.lt_of_lt_of_le (by have := World.block_lt_of_cell? _ _ hw250_4; first | rwa [add_block] at this | exact this) GW257.out)) | (show (Addr.add _ _).block ≠ _; rw [add_block]; exact Nat.ne_of_lt (Nat.lt_of_lt_of_le (by have := World.block_lt_of_cell? _ _ hw250_4; first | rwa [add_block] at this | exact this) GW257.out)) | (dsimp only; exact Nat.ne_of_lt (Nat.lt_of_lt_of_le (by have := World.block_lt_of_cell? _ _ hw250_4; first | rwa [add_block] at this | exact this) GW257.out))) _).trans (((cell_far (p := ⟨gb257, _, none⟩) (by first | exact Nat.ne_of_lt (Nat.lt_of_lt_of_le (by have := World.block_lt_of_cell? _ _ hw250_4; first | rwa [add_block] at this | exact this) GW257.out) | (rw [add_block]; exact Nat.ne_of_lt (Nat.lt_of_lt_of_le (by have := World.block_lt_of_cell? _ _ hw250_4; first | rwa [add_block] at this | exact this) GW257.out)) | (show (Addr.add _ _).block ≠ _; rw [add_block]; exact Nat.ne_of_lt (Nat.lt_of_lt_of_le (by have := World.block_lt_of_cell? _ _ hw250_4; first | rwa [add_block] at this | exact this) GW257.out)) | (dsimp only; exact Nat.ne_of_lt (Nat.lt_of_lt_of_le (by have := World.block_lt_of_cell? _ _ hw250_4; first | rwa [add_block] at this | exact this) GW257.out))) _).trans (hHeld.2.2.2.2.2.2.2.2))))))))))⟩ (fun hHeld => ?_)
          clear hK K
          refine pure_ (i := 12) (N := some 10) (v := ?_) (a' := ?_) #[true, true, true, true, true, true, true, true, true, true, true, true, true] rfl rfl (any_of HT_.out zF7_12) (fun _ _ _ h => h) (Or.inl ⟨by rfl, ?_⟩) ?_ ?_
          rotate_left
          ·intro w'
           go_simp
           with_reducible rfl
          rotate_left
          ·simp only [Act.put, List.setIfInBounds_toArray, List.set_cons_zero, List.set_cons_succ, i64_w, i32_w]
           rfl
          refine done_ (done_of HT_.out zF7_12) ?_
          try go_wp2
          go_ret2
          exact ⟨_, by first | rfl | (simp [errW_none, errW_some] <;> rfl) | (simp [*, errW_none, errW_some] <;> rfl), by first | exact Kd.R_nil _ _ _ _ _ | exact Kd.N_nil _ _ _ _ _ | exact Kd.V_nil _ _ _ _ _ | exact Kd.Q_nil _ _ _ _ _ | exact Kd.S_nil _ _ _ _ _, by repeat (first | (with_reducible first | exact HB.out | apply below_alloc | apply pw_below_drewN | apply below_drew1 | refine below_set ?_ GE236.out | refine below_set ?_ GE238.out | refine below_set ?_ GE257.out) | exact HB.out)⟩
        ·replace c26 := Bool.eq_false_iff.mpr c26
         subst c26
         have H1 : (some (([] : List (S41)), 21)) = some (r1, r2) := by rw [if_neg (show ¬ (false = true) by decide)] at H; exact H
         clear H
         have H := H1
         clear H1
         simp only [Option.some.injEq, Prod.mk.injEq] at H
         obtain ⟨rfl, rfl⟩ := H
         have hcz66_0 : wr.cell? ⟨gb236, 0, none⟩ = some (.string a0_0) := (blk_cell BK236.out 0).trans rfl
         have hcz66_1 : wr.cell? ⟨gb236, 1, none⟩ = some (.slice A0_1 l0_1.length c0_1) := (blk_cell BK236.out 1).trans rfl
         have hfz66_0 := blk_frozen BK236.out 0
         have hfz66_1 := blk_frozen BK236.out 1
         have p237 : 0 ≤ (x7_1 : Int) := of_decide_eq_true zF7_11
         have q237 : x7_1 < (l0_1.length : Int) := of_decide_eq_true zF7_11
         obtain ⟨ad237, e237, hx237_0, hx237_1, hx237_2, hx237_3⟩ := at_T36 HR0_1.out x7_1 p237 q237
         (try rw [← Nbq9.out] at hx237_3)
         cases e237
         replace hx237_0 := (HB.out.cell (World.block_lt_of_cell? w _ hx237_0)).trans hx237_0
         replace hx237_1 := (HB.out.cell (World.block_lt_of_cell? w _ hx237_1)).trans hx237_1
         replace hx237_2 := (HB.out.cell (World.block_lt_of_cell? w _ hx237_2)).trans hx237_2
         replace hx237_3 := (HB.out.cell (World.block_lt_of_cell? w _ hx237_3)).trans hx237_3
         replace p237 := eq_true p237
         replace q237 := eq_true q237
         try go_wp2_with (first | ((with_reducible refine gate_dst (N := 8) rfl ?_); refine box_event ?hg (N := 8) ?hd (cs := #[.string (⟨#[]⟩ : ByteArray), .int .i64 0, .int .i64 0, .bool false]) (t := 36) ?hr ?_; (case hd => rfl); (case hg => rfl); (case hr => first | (go_simp; done) | (go_simp; rfl)); intro gb238 hg w67 hbox hb; have n0_ := Aside0.mk (Kd.R_below zF7_10 hb); have n1_ := Aside0.mk (blk_below (g := gb236) (o := .cells #[.string a0_0, .slice (some ad237) l0_1.length c0_1] 24 (0, 0)) zF7_0 hb); have n2_ := Aside0.mk (below_step zF7_7 hb); have n3_ := Aside0.mk (hbox); have n4_ := Aside0.mk ((zF7_34 : w.heap.size ≤ gb238)); have n5_ := Aside0.mk ((zF7_34 : w.heap.size ≤ gb238)); have n6_ := Aside0.mk ((zF7_30 : gb236 ≠ gb238)); have n7_ := Aside0.mk ((zF7_31 : gb238 ≠ gb236)); clear HO_6; clear BK236; clear HB; have HO_6 := n0_; have BK236 := n1_; have HB := n2_; have BK238 := n3_; have GW238 := n4_; have GE238 := n5_; have NB236_238 := n6_; have NB238_236 := n7_; clear n0_ n1_ n2_ n3_ n4_ n5_ n6_ n7_; clear hb hbox hg; have hnb68 := NB238_236.out; have hnc68 := NB236_238.out; have hcz69_0 : w67.cell? ⟨gb238, 0, none⟩ = some (.string (⟨#[]⟩ : ByteArray)) := (blk_cell BK238.out 0).trans rfl; have hcz69_1 : w67.cell? ⟨gb238, 1, none⟩ = some (.int .i64 0) := (blk_cell BK238.out 1).trans rfl; have hcz69_2 : w67.cell? ⟨gb238, 2, none⟩ = some (.int .i64 0) := (blk_cell BK238.out 2).trans rfl; have hcz69_3 : w67.cell? ⟨gb238, 3, none⟩ = some (.bool false) := (blk_cell BK238.out 3).trans zF7_29; have hfz69_0 := blk_frozen BK238.out 0; have hfz69_1 := blk_frozen BK238.out 1; have hfz69_2 := blk_frozen BK238.out 2; have hfz69_3 := blk_frozen BK238.out 3; have p239 : 0 ≤ (x7_1 : Int) := of_decide_eq_true zF7_11; have q239 : x7_1 < (l1.length : Int) := of_decide_eq_true zF7_11; obtain ⟨ad239, e239, hx239_0, hx239_1, hx239_2, hx239_3, hx239_4⟩ := at_T41 HR1.out x7_1 p239 q239; (try rw [← Nbq9.out] at hx239_2); cases e239; have hn239_0 : ad239.block ≠ gb238 := Nat.ne_of_lt (Nat.lt_of_lt_of_le (by have := World.block_lt_of_cell? _ _ hx239_0; first | rwa [add_block] at this | exact this) GW238.out); have hn239_1 : ad239.block ≠ gb238 := Nat.ne_of_lt (Nat.lt_of_lt_of_le (by have := World.block_lt_of_cell? _ _ hx239_0; first | rwa [add_block] at this | exact this) GW238.out); have hn239_2 : ad239.block ≠ gb238 := Nat.ne_of_lt (Nat.lt_of_lt_of_le (by have := World.block_lt_of_cell? _ _ hx239_0; first | rwa [add_block] at this | exact this) GW238.out); have hn239_3 : ad239.block ≠ gb238 := Nat.ne_of_lt (Nat.lt_of_lt_of_le (by have := World.block_lt_of_cell? _ _ hx239_0; first | rwa [add_block] at this | exact this) GW238.out); replace hx239_0 := (HB.out.cell (World.block_lt_of_cell? w _ hx239_0)).trans hx239_0; replace hx239_1 := (HB.out.cell (World.block_lt_of_cell? w _ hx239_1)).trans hx239_1; replace hx239_2 := (HB.out.cell (World.block_lt_of_cell? w _ hx239_2)).trans hx239_2; replace hx239_3 := (HB.out.cell (World.block_lt_of_cell? w _ hx239_3)).trans hx239_3; replace hx239_4 := (HB.out.cell (World.block_lt_of_cell? w _ hx239_4)).trans hx239_4; replace hx239_0 := (cell_far (p := ⟨gb238, 0, none⟩) zF7_2 (.string ((rd_T36 l0_1 x7_1).f0))).trans hx239_0; replace hx239_1 := (cell_far (p := ⟨gb238, 0, none⟩) zF7_2 (.string ((rd_T36 l0_1 x7_1).f0))).trans hx239_1; replace hx239_2 := (cell_far (p := ⟨gb238, 0, none⟩) zF7_2 (.string ((rd_T36 l0_1 x7_1).f0))).trans hx239_2; replace hx239_3 := (cell_far (p := ⟨gb238, 0, none⟩) zF7_2 (.string ((rd_T36 l0_1 x7_1).f0))).trans hx239_3; replace hx239_4 := (cell_far (p := ⟨gb238, 0, none⟩) zF7_2 (.string ((rd_T36 l0_1 x7_1).f0))).trans hx239_4; replace hx239_0 := (cell_far (p := ⟨gb238, 1, none⟩) zF7_3 (.int .i64 ((rd_T36 l0_1 x7_1).f1.f0))).trans hx239_0; replace hx239_1 := (cell_far (p := ⟨gb238, 1, none⟩) zF7_3 (.int .i64 ((rd_T36 l0_1 x7_1).f1.f0))).trans hx239_1; replace hx239_2 := (cell_far (p := ⟨gb238, 1, none⟩) zF7_3 (.int .i64 ((rd_T36 l0_1 x7_1).f1.f0))).trans hx239_2; replace hx239_3 := (cell_far (p := ⟨gb238, 1, none⟩) zF7_3 (.int .i64 ((rd_T36 l0_1 x7_1).f1.f0))).trans hx239_3; replace hx239_4 := (cell_far (p := ⟨gb238, 1, none⟩) zF7_3 (.int .i64 ((rd_T36 l0_1 x7_1).f1.f0))).trans hx239_4; replace hx239_0 := (cell_far (p := ⟨gb238, 2, none⟩) zF7_4 (.int .i64 ((rd_T36 l0_1 x7_1).f1.f1))).trans hx239_0; replace hx239_1 := (cell_far (p := ⟨gb238, 2, none⟩) zF7_4 (.int .i64 ((rd_T36 l0_1 x7_1).f1.f1))).trans hx239_1; replace hx239_2 := (cell_far (p := ⟨gb238, 2, none⟩) zF7_4 (.int .i64 ((rd_T36 l0_1 x7_1).f1.f1))).trans hx239_2; replace hx239_3 := (cell_far (p := ⟨gb238, 2, none⟩) zF7_4 (.int .i64 ((rd_T36 l0_1 x7_1).f1.f1))).trans hx239_3; replace hx239_4 := (cell_far (p := ⟨gb238, 2, none⟩) zF7_4 (.int .i64 ((rd_T36 l0_1 x7_1).f1.f1))).trans hx239_4; replace hx239_0 := (cell_far (p := ⟨gb238, 3, none⟩) zF7_5 (.bool ((rd_T36 l0_1 x7_1).f2))).trans hx239_0; replace hx239_1 := (cell_far (p := ⟨gb238, 3, none⟩) zF7_5 (.bool ((rd_T36 l0_1 x7_1).f2))).trans hx239_1; replace hx239_2 := (cell_far (p := ⟨gb238, 3, none⟩) zF7_5 (.bool ((rd_T36 l0_1 x7_1).f2))).trans hx239_2; replace hx239_3 := (cell_far (p := ⟨gb238, 3, none⟩) zF7_5 (.bool ((rd_T36 l0_1 x7_1).f2))).trans hx239_3; replace hx239_4 := (cell_far (p := ⟨gb238, 3, none⟩) zF7_5 (.bool ((rd_T36 l0_1 x7_1).f2))).trans hx239_4; clear hn239_0; clear hn239_1; clear hn239_2; clear hn239_3; replace p239 := eq_true p239; replace q239 := eq_true q239))
         have n0_ : Aside0 (Kd.R k41 41 ((((w67.setCell ⟨gb238, 0, none⟩ (.string ((rd_T36 l0_1 x7_1).f0))).setCell ⟨gb238, 1, none⟩ (.int .i64 ((rd_T36 l0_1 x7_1).f1.f0))).setCell ⟨gb238, 2, none⟩ (.int .i64 ((rd_T36 l0_1 x7_1).f1.f1))).setCell ⟨gb238, 3, none⟩ (.bool ((rd_T36 l0_1 x7_1).f2))) w.heap.size (fun _ => True) u6 x6_1) := ⟨by (with_reducible repeat (first | apply Kd.R_alloc | apply Kd.R_drewN | apply Kd.R_drew)); exact Kd.R_mono (Kd.R_far (p := ⟨gb238, 3, none⟩) (Kd.R_far (p := ⟨gb238, 2, none⟩) (Kd.R_far (p := ⟨gb238, 1, none⟩) (Kd.R_far (p := ⟨gb238, 0, none⟩) (Kd.R_types HO_6.out BK238.out zF7_28) (fun _ hk => hk.2) (.string ((rd_T36 l0_1 x7_1).f0))) (fun _ hk => hk.2) (.int .i64 ((rd_T36 l0_1 x7_1).f1.f0))) (fun _ hk => hk.2) (.int .i64 ((rd_T36 l0_1 x7_1).f1.f1))) (fun _ hk => hk.2) (.bool ((rd_T36 l0_1 x7_1).f2))) (fun _ hk => trivial)⟩
         have n1_ : Aside0 (((((w67.setCell ⟨gb238, 0, none⟩ (.string ((rd_T36 l0_1 x7_1).f0))).setCell ⟨gb238, 1, none⟩ (.int .i64 ((rd_T36 l0_1 x7_1).f1.f0))).setCell ⟨gb238, 2, none⟩ (.int .i64 ((rd_T36 l0_1 x7_1).f1.f1))).setCell ⟨gb238, 3, none⟩ (.bool ((rd_T36 l0_1 x7_1).f2))).heap[gb236]? = some (.cells #[.string a0_0, .slice (some ad237) l0_1.length c0_1] 24 (0, 0))) := ⟨by (with_reducible repeat (first | refine blk_drewN ?_ _ | refine blk_drew ?_ | refine blk_alloc ?_ _)); refine blk_far ?_ NB236_238.out _; (with_reducible repeat (first | refine blk_drewN ?_ _ | refine blk_drew ?_ | refine blk_alloc ?_ _)); refine blk_far ?_ NB236_238.out _; (with_reducible repeat (first | refine blk_drewN ?_ _ | refine blk_drew ?_ | refine blk_alloc ?_ _)); refine blk_far ?_ NB236_238.out _; (with_reducible repeat (first | refine blk_drewN ?_ _ | refine blk_drew ?_ | refine blk_alloc ?_ _)); refine blk_far ?_ NB236_238.out _; (with_reducible repeat (first | refine blk_drewN ?_ _ | refine blk_drew ?_ | refine blk_alloc ?_ _)); exact BK236.out⟩
         have n2_ : Aside0 (((((w67.setCell ⟨gb238, 0, none⟩ (.string ((rd_T36 l0_1 x7_1).f0))).setCell ⟨gb238, 1, none⟩ (.int .i64 ((rd_T36 l0_1 x7_1).f1.f0))).setCell ⟨gb238, 2, none⟩ (.int .i64 ((rd_T36 l0_1 x7_1).f1.f1))).setCell ⟨gb238, 3, none⟩ (.bool ((rd_T36 l0_1 x7_1).f2))).heap[gb238]? = some (.cells #[.string ((rd_T36 l0_1 x7_1).f0), .int .i64 ((rd_T36 l0_1 x7_1).f1.f0), .int .i64 ((rd_T36 l0_1 x7_1).f1.f1), .bool ((rd_T36 l0_1 x7_1).f2)] 36 (0, 0))) := ⟨by (with_reducible repeat (first | refine blk_drewN ?_ _ | refine blk_drew ?_ | refine blk_alloc ?_ _)); refine blk_put (cs := #[.string ((rd_T36 l0_1 x7_1).f0), .int .i64 ((rd_T36 l0_1 x7_1).f1.f0), .int .i64 ((rd_T36 l0_1 x7_1).f1.f1), .bool false]) ?_ 3 _ rfl; (with_reducible repeat (first | refine blk_drewN ?_ _ | refine blk_drew ?_ | refine blk_alloc ?_ _)); refine blk_put (cs := #[.string ((rd_T36 l0_1 x7_1).f0), .int .i64 ((rd_T36 l0_1 x7_1).f1.f0), .int .i64 0, .bool false]) ?_ 2 _ rfl; (with_reducible repeat (first | refine blk_drewN ?_ _ | refine blk_drew ?_ | refine blk_alloc ?_ _)); refine blk_put (cs := #[.string ((rd_T36 l0_1 x7_1).f0), .int .i64 0, .int .i64 0, .bool false]) ?_ 1 _ rfl; (with_reducible repeat (first | refine blk_drewN ?_ _ | refine blk_drew ?_ | refine blk_alloc ?_ _)); refine blk_put (cs := #[.string (⟨#[]⟩ : ByteArray), .int .i64 0, .int .i64 0, .bool false]) ?_ 0 _ rfl; (with_reducible repeat (first | refine blk_drewN ?_ _ | refine blk_drew ?_ | refine blk_alloc ?_ _)); exact BK238.out⟩
         have n3_ : Aside0 (Below w.heap.size w ((((w67.setCell ⟨gb238, 0, none⟩ (.string ((rd_T36 l0_1 x7_1).f0))).setCell ⟨gb238, 1, none⟩ (.int .i64 ((rd_T36 l0_1 x7_1).f1.f0))).setCell ⟨gb238, 2, none⟩ (.int .i64 ((rd_T36 l0_1 x7_1).f1.f1))).setCell ⟨gb238, 3, none⟩ (.bool ((rd_T36 l0_1 x7_1).f2)))) := ⟨by repeat (first | (with_reducible first | exact HB.out | apply below_alloc | apply pw_below_drewN | apply below_drew1 | refine below_set ?_ GE236.out | refine below_set ?_ GE238.out) | exact HB.out)⟩
         (try clear HO_6)
         (try clear BK236)
         (try clear BK238)
         (try clear HB)
         generalize ((((w67.setCell ⟨gb238, 0, none⟩ (.string ((rd_T36 l0_1 x7_1).f0))).setCell ⟨gb238, 1, none⟩ (.int .i64 ((rd_T36 l0_1 x7_1).f1.f0))).setCell ⟨gb238, 2, none⟩ (.int .i64 ((rd_T36 l0_1 x7_1).f1.f1))).setCell ⟨gb238, 3, none⟩ (.bool ((rd_T36 l0_1 x7_1).f2))) = w70 at n0_ n1_ n2_ n3_ ⊢
         have HO_6 := n0_
         have BK236 := n1_
         have BK238 := n2_
         have HB := n3_
         clear n0_ n1_ n2_ n3_
         have n0_ := Aside0.mk (Kd.R_drew HO_6.out)
         have n1_ := Aside0.mk (blk_drew BK236.out)
         have n2_ := Aside0.mk (blk_drew BK238.out)
         have n3_ := Aside0.mk (below_drew1 HB.out)
         clear HO_6
         clear BK236
         clear BK238
         clear HB
         have HO_6 := n0_
         have BK236 := n1_
         have BK238 := n2_
         have HB := n3_
         clear n0_ n1_ n2_ n3_
         have p248 : 0 ≤ (x7_1 : Int) := of_decide_eq_true zF7_11
         have q248 : x7_1 < (l1.length : Int) := of_decide_eq_true zF7_11
         obtain ⟨ad248, e248, hx248_0, hx248_1, hx248_2, hx248_3, hx248_4⟩ := at_T41 HR1.out x7_1 p248 q248
         have hw248_4 := hx248_4
         have hw248_3 := hx248_3
         have hw248_2 := hx248_2
         have hw248_1 := hx248_1
         have hw248_0 := hx248_0
         (try rw [← Nbq9.out] at hx248_2)
         obtain rfl : ad239 = ad248 := (by injection e248)
         replace hx248_0 := (HB.out.cell (World.block_lt_of_cell? w _ hx248_0)).trans hx248_0
         replace hx248_1 := (HB.out.cell (World.block_lt_of_cell? w _ hx248_1)).trans hx248_1
         replace hx248_2 := (HB.out.cell (World.block_lt_of_cell? w _ hx248_2)).trans hx248_2
         replace hx248_3 := (HB.out.cell (World.block_lt_of_cell? w _ hx248_3)).trans hx248_3
         replace hx248_4 := (HB.out.cell (World.block_lt_of_cell? w _ hx248_4)).trans hx248_4
         replace p248 := eq_true p248
         replace q248 := eq_true q248
         refine start_ (n := 9) (S := fun w' => w'.cell? ⟨gb238, 0, none⟩ = some (.string ((rd_T36 l0_1 x7_1).f0)) ∧ w'.cell? ⟨gb238, 1, none⟩ = some (.int .i64 ((rd_T36 l0_1 x7_1).f1.f0)) ∧ w'.cell? ⟨gb238, 2, none⟩ = some (.int .i64 ((rd_T36 l0_1 x7_1).f1.f1)) ∧ w'.cell? ⟨gb238, 3, none⟩ = some (.bool ((rd_T36 l0_1 x7_1).f2)) ∧ w'.cell? (ad239.add ((x7_1).toNat * 5)) = some (.int .i64 ((rd_T41 l1 x7_1).f0.f0)) ∧ w'.cell? ⟨(ad239.add ((x7_1).toNat * 5)).block, (ad239.add ((x7_1).toNat * 5)).off + 1, none⟩ = some (.int .i64 ((rd_T41 l1 x7_1).f0.f1)) ∧ w'.cell? ⟨(ad239.add ((x7_1).toNat * 5)).block, (ad239.add ((x7_1).toNat * 5)).off + 2, none⟩ = some (.bool (false)) ∧ w'.cell? ⟨(ad239.add ((x7_1).toNat * 5)).block, (ad239.add ((x7_1).toNat * 5)).off + 3, none⟩ = some (.int .i64 ((rd_T41 l1 x7_1).f2)) ∧ w'.cell? ⟨(ad239.add ((x7_1).toNat * 5)).block, (ad239.add ((x7_1).toNat * 5)).off + 4, none⟩ = some (.string ((rd_T41 l1 x7_1).f3))) (ds := []) #[false, false, false, false, false, false, false, false, false] zF7_12 rfl rfl ⟨(blk_cell BK238.out 0).trans rfl, (blk_cell BK238.out 1).trans rfl, (blk_cell BK238.out 2).trans rfl, (blk_cell BK238.out 3).trans rfl, ((HB.out.cell (World.block_lt_of_cell? w _ hw248_0)).trans zF7_23), ((HB.out.cell (World.block_lt_of_cell? w _ hw248_1)).trans zF7_24), ((HB.out.cell (World.block_lt_of_cell? w _ hw248_2)).trans zF7_25), ((HB.out.cell (World.block_lt_of_cell? w _ hw248_3)).trans zF7_26), ((HB.out.cell (World.block_lt_of_cell? w _ hw248_4)).trans zF7_27)⟩ (fun hHeld => ?_); refine with_tabW colonnaderef11_Fit.tab12 colonnaderef11_Fit.bits12 (fun HT_ HW_ => ?_)
         generalize w70.drew = w71 at HO_6 BK236 BK238 HB hx248_0 hx248_1 hx248_2 hx248_3 hx248_4 hHeld ⊢
         refine pure_ (i := 0) (N := some 41) (v := ?_) (a' := ?_) #[true, false, false, false, false, false, false, false, false] rfl rfl (any_of HT_.out zF7_12) (fun _ _ _ h => h) (Or.inl ⟨by rfl, ?_⟩) ?_ ?_
         rotate_left
         ·intro w'
          go_simp
          with_reducible rfl
         rotate_left
         ·simp only [Act.put, List.setIfInBounds_toArray, List.set_cons_zero, List.set_cons_succ, i64_w, i32_w]
          rfl
         refine pure_ (i := 1) (N := some 42) (v := ?_) (a' := ?_) #[true, true, false, false, false, false, false, false, false] rfl rfl (any_of HT_.out zF7_12) (fun _ _ _ h => h) (Or.inl ⟨by rfl, ?_⟩) ?_ ?_
         rotate_left
         ·intro w'
          go_simp
          with_reducible rfl
         rotate_left
         ·simp only [Act.put, List.setIfInBounds_toArray, List.set_cons_zero, List.set_cons_succ, i64_w, i32_w]
          rfl
         refine pure_ (i := 2) (N := some 43) (v := ?_) (a' := ?_) #[true, true, true, false, false, false, false, false, false] rfl rfl (any_of HT_.out zF7_12) (fun _ _ _ h => h) (Or.inl ⟨by rfl, ?_⟩) ?_ ?_
         rotate_left
         ·intro w'
          go_simp
          with_reducible rfl
         rotate_left
         ·simp only [Act.put, List.setIfInBounds_toArray, List.set_cons_zero, List.set_cons_succ, i64_w, i32_w]
          rfl
         refine pure_ (i := 3) (N := some 44) (v := ?_) (a' := ?_) #[true, true, true, true, false, false, false, false, false] rfl rfl (any_of HT_.out zF7_12) (fun _ _ _ h => h) (Or.inl ⟨by rfl, ?_⟩) ?_ ?_
         rotate_left
         ·intro w'
          go_simp
          with_reducible rfl
         rotate_left
         ·simp only [Act.put, List.setIfInBounds_toArray, List.set_cons_zero, List.set_cons_succ, i64_w, i32_w]
          rfl
         refine pure_ (i := 5) (N := some 46) (v := ?_) (a' := ?_) #[true, true, true, true, false, true, false, false, false] rfl rfl (any_of HT_.out zF7_12) (fun _ _ _ h => h) (Or.inl ⟨by rfl, ?_⟩) ?_ ?_
         rotate_left
         ·intro w'
          go_simp
          with_reducible rfl
         rotate_left
         ·simp only [Act.put, List.setIfInBounds_toArray, List.set_cons_zero, List.set_cons_succ, i64_w, i32_w]
          rfl
         refine take_ (i := 4) (N := some 45) (v := ?_) (a' := ?_) #[true, true, true, true, true, true, false, false, false] rfl rfl (take_ofW HT_.out HW_.out zF7_12) (fun _ _ _ h => h) (Or.inl ⟨by rfl, ?_⟩) hHeld ?_ ?_
         rotate_left
         ·rintro w' ⟨s0, s1, s2, s3, s4, s5, s6, s7, s8⟩
          go_simp
          with_reducible rfl
         rotate_left
         ·simp only [Act.put, List.setIfInBounds_toArray, List.set_cons_zero, List.set_cons_succ, i64_w, i32_w]
          rfl
         refine take_ (i := 6) (N := some 47) (v := ?_) (a' := ?_) #[true, true, true, true, true, true, true, false, false] rfl rfl (take_ofW HT_.out HW_.out zF7_12) (fun _ _ _ h => h) (Or.inl ⟨by rfl, ?_⟩) hHeld ?_ ?_
         rotate_left
         ·rintro w' ⟨s0, s1, s2, s3, s4, s5, s6, s7, s8⟩
          go_simp
          with_reducible rfl
         rotate_left
         ·simp only [Act.put, List.setIfInBounds_toArray, List.set_cons_zero, List.set_cons_succ, i64_w, i32_w]
          rfl
         refine one_ (i := 7) (N := some 48) #[true, true, true, true, true, true, true, true, false] rfl rfl (one_of HT_.out zF7_12) zF7_28 (fun K hK => ?_)
         refine goes_ Tryz.func45 zF7_12 rfl #[.agg #[.int .i64 ((rd_T41 l1 x7_1).f0.f0), .int .i64 ((rd_T41 l1 x7_1).f0.f1)], .agg #[.int .i64 ((rd_T36 l0_1 x7_1).f1.f0), .int .i64 ((rd_T36 l0_1 x7_1).f1.f1)]] (by rfl) rfl rfl zF7_13 ?_
         with_reducible refine (colonnaderef02_Alike.calls ((rd_T41 l1 x7_1).f0.f0) ((rd_T41 l1 x7_1).f0.f1) ((rd_T36 l0_1 x7_1).f1.f0) ((rd_T36 l0_1 x7_1).f1.f1) false _ A25.out).mono ?_
         rintro e w72 ⟨rfl, hb⟩
         refine ⟨_, rfl, ?_⟩
         have n0_ := Aside0.mk (Kd.R_below zF7_10 hb)
         have n1_ := Aside0.mk (blk_below (g := gb236) (o := .cells #[.string a0_0, .slice (some ad237) l0_1.length c0_1] 24 (0, 0)) zF7_0 hb)
         have n2_ := Aside0.mk (blk_below (g := gb238) (o := .cells #[.string ((rd_T36 l0_1 x7_1).f0), .int .i64 ((rd_T36 l0_1 x7_1).f1.f0), .int .i64 ((rd_T36 l0_1 x7_1).f1.f1), .bool ((rd_T36 l0_1 x7_1).f2)] 36 (0, 0)) zF7_6 hb)
         have n3_ := Aside0.mk (below_step zF7_1 hb)
         clear HO_6
         clear BK236
         clear BK238
         clear HB
         have HO_6 := n0_
         have BK236 := n1_
         have BK238 := n2_
         have HB := n3_
         clear n0_ n1_ n2_ n3_
         (try clear hb)
         (try clear hb2)
         (try clear hk)
         (try clear hi)
         refine hK.out _ _ ⟨(blk_cell BK238.out 0).trans rfl, (blk_cell BK238.out 1).trans rfl, (blk_cell BK238.out 2).trans rfl, (blk_cell BK238.out 3).trans rfl, ((HB.out.cell (World.block_lt_of_cell? w _ hw248_0)).trans zF7_23), ((HB.out.cell (World.block_lt_of_cell? w _ hw248_1)).trans zF7_24), ((HB.out.cell (World.block_lt_of_cell? w _ hw248_2)).trans zF7_25), ((HB.out.cell (World.block_lt_of_cell? w _ hw248_3)).trans zF7_26), ((HB.out.cell (World.block_lt_of_cell? w _ hw248_4)).trans zF7_27)⟩ (fun hHeld => ?_)
         clear hK K
         refine norm_ (a' := ?_) ?_ ?_
         rotate_left
         ·show Act.put _ (some 48) _ = _
          simp only [Act.put, List.setIfInBounds_toArray, List.set_cons_zero, List.set_cons_succ, i64_w, i32_w]
          rfl
         refine pure_ (i := 8) (N := some 49) (v := ?_) (a' := ?_) #[true, true, true, true, true, true, true, true, true] rfl rfl (any_of HT_.out zF7_12) (fun _ _ _ h => h) (Or.inl ⟨by rfl, ?_⟩) ?_ ?_
         rotate_left
         ·intro w'
          go_simp
          with_reducible rfl
         rotate_left
         ·simp only [Act.put, List.setIfInBounds_toArray, List.set_cons_zero, List.set_cons_succ, i64_w, i32_w]
          rfl
         refine done_ (done_of HT_.out zF7_12) ?_
         try go_wp2
         go_ret2
         exact ⟨_, by first | rfl | (simp [errW_none, errW_some] <;> rfl) | (simp [*, errW_none, errW_some] <;> rfl), by first | exact Kd.R_nil _ _ _ _ _ | exact Kd.N_nil _ _ _ _ _ | exact Kd.V_nil _ _ _ _ _ | exact Kd.Q_nil _ _ _ _ _ | exact Kd.S_nil _ _ _ _ _, by repeat (first | (with_reducible first | exact HB.out | apply below_alloc | apply pw_below_drewN | apply below_drew1 | refine below_set ?_ GE236.out | refine below_set ?_ GE238.out) | exact HB.out)⟩
      ·rw [if_neg c8] at H
       exact absurd H (by simp)
     ·rw [if_neg c7] at H
      exact absurd H (by simp)
    ·rw [if_neg c6] at H
     have c6b0 : decide (x7_1 < (l1.length : Int)) = false := decide_eq_false c6
     clear c6
     simp only [Option.some.injEq, Prod.mk.injEq] at H
     obtain ⟨rfl, rfl⟩ := H
     go_wp2
     go_ret2
     exact ⟨_, by first | rfl | (simp [errW_none, errW_some] <;> rfl) | (simp [*, errW_none, errW_some] <;> rfl), by (with_reducible repeat (first | apply Kd.R_alloc | apply Kd.R_drewN | apply Kd.R_drew)); exact HO_6.out, by repeat (first | (with_reducible first | exact HB.out | apply below_alloc | apply pw_below_drewN | apply below_drew1 | refine below_set ?_ GE236.out) | exact HB.out)⟩
 ·rw [if_neg c3] at H
  have c3b0 : ((l1.length : Int) == (l0_1.length : Int)) = false := beq_eq_false_iff_ne.mpr c3
  have c3b1 : ((l1.length : Int) != (l0_1.length : Int)) = true := bne_iff_ne.mpr c3
  have c3b2 : (l1.length == l0_1.length) = false := by first | simpa using c3 | (simp at c3 ⊢; omega)
  simp only [Option.some.injEq, Prod.mk.injEq] at H
  obtain ⟨rfl, rfl⟩ := H
  go_wp2
  go_ret2
  exact ⟨_, by first | rfl | (simp [errW_none, errW_some] <;> rfl) | (simp [*, errW_none, errW_some] <;> rfl), by first | exact Kd.R_nil _ _ _ _ _ | exact Kd.N_nil _ _ _ _ _ | exact Kd.V_nil _ _ _ _ _ | exact Kd.Q_nil _ _ _ _ _ | exact Kd.S_nil _ _ _ _ _, by repeat (first | (with_reducible first | exact HB.out | apply below_alloc | apply pw_below_drewN | apply below_drew1 | refine below_set ?_ GE236.out) | exact HB.out)⟩

end Go.Proofs.YtmeopdjdjmjngaaGreatDoor.F
