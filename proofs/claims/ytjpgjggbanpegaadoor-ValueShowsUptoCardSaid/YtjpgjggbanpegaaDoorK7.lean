/- PRINTED BY A PROGRAM OF THIS SESSION (px.py, over the kit's print): Lean functions with the answers of Go functions of the given program, and proofs that the Go code comes to these answers; each under the conditions that its theorem states. -/
import Derived.Test.YtjpgjggbanpegaaDoorK0
import Derived.Test.YtjpgjggbanpegaaDoorK5
import Derived.Test.YtjpgjggbanpegaaDoorK6
namespace Go.Proofs.YtjpgjggbanpegaaDoor.K
open Go.RowKit Go.Proofs.YtjpgjggbanpegaaDoorW.PrintWords Go.Proofs.YtjpgjggbanpegaaDoorW.PrintLast Go.Proofs.YtjpgjggbanpegaaDoorW.PrintMore
attribute [local go_sem] max2_int min2_int max_two min_two max_three min_three max_four min_four   -- for this text's walks alone
set_option linter.unusedVariables false
set_option linter.unusedSimpArgs false

/-! ### colonnaderef02_Key: function 15 -/
mutual
def colonnaderef02_Key.l0 : Nat → List (S25) → ByteArray → Int → Option (ByteArray)
  | 0, _, _, _ => none
  | k + 1, x0, x3, x4 => if x4 < (x0.length : Int) then (if 0 ≤ x4 then ((colonnaderef01_FormatInt.f k ((rd_T25 x0 x4).f0.f0)).bind fun t258 => (if x3.size + t258.size ≤ 9223372036854775807 then (if ((rd_T25 x0 x4).f0.f0) = 3 then (if ((rd_T25 x0 x4).f0.f1) < 0 then ((some (([48 + ((99 : Int) / 10), 48 + ((99 : Int) % 10)] : List Int) : List Int)).bind fun y259 => (if (x3 ++ t258).size + (strOfNums y259).size ≤ 9223372036854775807 then (colonnaderef02_Key.j1 k x0 ((x3 ++ t258) ++ (strOfNums y259)) x4 ((rd_T25 x0 x4).f0.f0) ((rd_T25 x0 x4).f0.f0) ((rd_T25 x0 x4).f0.f1) ((rd_T25 x0 x4).f1) ((rd_T25 x0 x4).f2) ((rd_T25 x0 x4).f3)) else (none))) else (if ((rd_T25 x0 x4).f0.f1) > 18 then ((some (([48 + ((99 : Int) / 10), 48 + ((99 : Int) % 10)] : List Int) : List Int)).bind fun y262 => (if (x3 ++ t258).size + (strOfNums y262).size ≤ 9223372036854775807 then (colonnaderef02_Key.j1 k x0 ((x3 ++ t258) ++ (strOfNums y262)) x4 ((rd_T25 x0 x4).f0.f0) ((rd_T25 x0 x4).f0.f0) ((rd_T25 x0 x4).f0.f1) ((rd_T25 x0 x4).f1) ((rd_T25 x0 x4).f2) ((rd_T25 x0 x4).f3)) else (none))) else ((some (([(wrap64 (48 + (wrap64 (Int.tdiv ((rd_T25 x0 x4).f0.f1) 10)))) % 256, (wrap64 (48 + (Int.tmod ((rd_T25 x0 x4).f0.f1) 10))) % 256] : List Int) : List Int)).bind fun y265 => (if (x3 ++ t258).size + (strOfNums y265).size ≤ 9223372036854775807 then (colonnaderef02_Key.j1 k x0 ((x3 ++ t258) ++ (strOfNums y265)) x4 ((rd_T25 x0 x4).f0.f0) ((rd_T25 x0 x4).f0.f0) ((rd_T25 x0 x4).f0.f1) ((rd_T25 x0 x4).f1) ((rd_T25 x0 x4).f2) ((rd_T25 x0 x4).f3)) else (none))))) else (colonnaderef02_Key.j1 k x0 (x3 ++ t258) x4 ((rd_T25 x0 x4).f0.f0) ((rd_T25 x0 x4).f0.f0) ((rd_T25 x0 x4).f0.f1) ((rd_T25 x0 x4).f1) ((rd_T25 x0 x4).f2) ((rd_T25 x0 x4).f3))) else (none))) else (none)) else (some x3)
def colonnaderef02_Key.j1 : Nat → List (S25) → ByteArray → Int → Int → Int → Int → Bool → Int → ByteArray → Option (ByteArray)
  | 0, _, _, _, _, _, _, _, _, _ => none
  | k + 1, x0, x3, x4, x6, x258000, x258001, x258002, x258003, x258004 => if x258002 = true then (if x3.size + 1 ≤ 9223372036854775807 then (colonnaderef02_Key.l0 k x0 (x3 ++ (⟨#[110]⟩ : ByteArray)) (wrap64 (x4 + 1))) else (none)) else (if x6 = 4 then ((colonnaderef01_FormatInt.f k (x258004.size : Int)).bind fun t268 => (if 1 + t268.size ≤ 9223372036854775807 then (if ((⟨#[118]⟩ : ByteArray) ++ t268).size + 1 ≤ 9223372036854775807 then (if (((⟨#[118]⟩ : ByteArray) ++ t268) ++ (⟨#[58]⟩ : ByteArray)).size + x258004.size ≤ 9223372036854775807 then (if x3.size + ((((⟨#[118]⟩ : ByteArray) ++ t268) ++ (⟨#[58]⟩ : ByteArray)) ++ x258004).size ≤ 9223372036854775807 then (colonnaderef02_Key.l0 k x0 (x3 ++ ((((⟨#[118]⟩ : ByteArray) ++ t268) ++ (⟨#[58]⟩ : ByteArray)) ++ x258004)) (wrap64 (x4 + 1))) else (none)) else (none)) else (none)) else (none))) else ((colonnaderef01_FormatInt.f k x258003).bind fun t269 => (if 1 + t269.size ≤ 9223372036854775807 then (if ((⟨#[118]⟩ : ByteArray) ++ t269).size + 1 ≤ 9223372036854775807 then (if x3.size + (((⟨#[118]⟩ : ByteArray) ++ t269) ++ (⟨#[59]⟩ : ByteArray)).size ≤ 9223372036854775807 then (colonnaderef02_Key.l0 k x0 (x3 ++ (((⟨#[118]⟩ : ByteArray) ++ t269) ++ (⟨#[59]⟩ : ByteArray))) (wrap64 (x4 + 1))) else (none)) else (none)) else (none))))
end
def colonnaderef02_Key.f (k : Nat) (l0 : List (S25)) : Option (ByteArray) := colonnaderef02_Key.l0 k l0 (⟨#[]⟩ : ByteArray) 0
theorem colonnaderef02_Key.mono_l : ∀ k, (∀ y0 y1 y2, LeO (colonnaderef02_Key.l0 k y0 y1 y2) (colonnaderef02_Key.l0 (k + 1) y0 y1 y2)) ∧ (∀ y0 y1 y2 y3 y4 y5 y6 y7 y8, LeO (colonnaderef02_Key.j1 k y0 y1 y2 y3 y4 y5 y6 y7 y8) (colonnaderef02_Key.j1 (k + 1) y0 y1 y2 y3 y4 y5 y6 y7 y8))
  | 0 => ⟨fun _ _ _ r h => by simp [colonnaderef02_Key.l0] at h, fun _ _ _ _ _ _ _ _ _ r h => by simp [colonnaderef02_Key.j1] at h⟩
  | k + 1 => by
    obtain ⟨ih0, ih1⟩ := colonnaderef02_Key.mono_l k
    refine ⟨?_, ?_⟩
    · intro y0 y1 y2
      unfold colonnaderef02_Key.l0
      repeat' first
      | (with_reducible exact ih0 _ _ _)
      | (with_reducible exact ih1 _ _ _ _ _ _ _ _ _)
      | (with_reducible exact colonnaderef01_FormatInt.mono _ _)
      | (with_reducible exact LeO.refl _)
      | (with_reducible exact LeO.none _)
      | (with_reducible refine LeO.ite ?_ ?_)
      | (with_reducible refine LeO.bind ?_ (fun _ => ?_))
      | exact ih0 _ _ _
      | exact ih1 _ _ _ _ _ _ _ _ _
      | exact colonnaderef01_FormatInt.mono _ _
      | exact LeO.none _
      | refine LeO.ite ?_ ?_
      | refine LeO.bind ?_ (fun _ => ?_)
    · intro y0 y1 y2 y3 y4 y5 y6 y7 y8
      unfold colonnaderef02_Key.j1
      repeat' first
      | (with_reducible exact ih0 _ _ _)
      | (with_reducible exact ih1 _ _ _ _ _ _ _ _ _)
      | (with_reducible exact colonnaderef01_FormatInt.mono _ _)
      | (with_reducible exact LeO.refl _)
      | (with_reducible exact LeO.none _)
      | (with_reducible refine LeO.ite ?_ ?_)
      | (with_reducible refine LeO.bind ?_ (fun _ => ?_))
      | exact ih0 _ _ _
      | exact ih1 _ _ _ _ _ _ _ _ _
      | exact colonnaderef01_FormatInt.mono _ _
      | exact LeO.none _
      | refine LeO.ite ?_ ?_
      | refine LeO.bind ?_ (fun _ => ?_)
theorem colonnaderef02_Key.mono : ∀ a0 k, LeO (colonnaderef02_Key.f k a0) (colonnaderef02_Key.f (k + 1) a0) := by
  intro a0 k
  obtain ⟨ih0, ih1⟩ := colonnaderef02_Key.mono_l k
  unfold colonnaderef02_Key.f
  repeat' first
      | (with_reducible exact ih0 _ _ _)
      | (with_reducible exact ih1 _ _ _ _ _ _ _ _ _)
      | (with_reducible exact colonnaderef01_FormatInt.mono _ _)
      | (with_reducible exact LeO.refl _)
      | (with_reducible exact LeO.none _)
      | (with_reducible refine LeO.ite ?_ ?_)
      | (with_reducible refine LeO.bind ?_ (fun _ => ?_))
      | exact ih0 _ _ _
      | exact ih1 _ _ _ _ _ _ _ _ _
      | exact colonnaderef01_FormatInt.mono _ _
      | exact LeO.none _
      | refine LeO.ite ?_ ?_
      | refine LeO.bind ?_ (fun _ => ?_)
def colonnaderef02_Key.T17 : Bool × List (List Nat × List Nat) := (true, [([], []), ([], []), ([1], [1]), ([2], [2]), ([3], [3]), ([4], [4]), ([5], [5]), ([], []), ([7], [7]), ([6, 8], [6, 8]), ([0, 9], [0, 9]), ([10, 4, 0, 1, 2, 3, 4, 5, 6, 7, 8, 9, 10], [0, 10])])
def colonnaderef02_Key.B17 : List Nat := [0, 0, 2, 6, 14, 30, 62, 0, 128, 510, 1023, 2047]
theorem colonnaderef02_Key.tab17 : rtab .any (opsOf Tryd.f15 17) = colonnaderef02_Key.T17 := by kernel_rfl
theorem colonnaderef02_Key.bits17 : waitsOk colonnaderef02_Key.T17.2 colonnaderef02_Key.B17 = true := by kernel_rfl
set_option maxHeartbeats 8000000 in
set_option maxRecDepth 100000 in
theorem colonnaderef02_Key.calls (k : Nat) (A0 : Option Addr) (c0 : Nat) (l0 : List (S25)) (r : ByteArray) (w : World) (hr0 : Kd.C k25 w A0 l0.length l0) (hc0 : l0.length ≤ c0) (h : colonnaderef02_Key.f k l0 = some r) :
    Calls Tryd.prog 15 #[.slice A0 l0.length c0] w fun e w' => e = .returned (.string r) ∧ Below w.heap.size w w' := by
  have hu25 := Tryd.underlying25
  have HR0 := Aside0.mk hr0
  have HC0 := Aside0.mk hc0
  clear hr0 hc0
  have HB := Aside0.mk (Below.refl w.heap.size w)
  have H : (colonnaderef02_Key.l0 k l0 (⟨#[]⟩ : ByteArray) 0) = some r := h
  clear h
  have H' := Aside0.mk H
  clear H
  go_enter Tryd.func15, Tryd.ntmps15
  go_wp2
  go_loopg [3, 4] k (fun kq v3 v4 w' => ∃ (x3_1 : ByteArray) (x4_1 : Int), v3 = .string x3_1 ∧ v4 = .int .i64 x4_1 ∧ Aside0 (colonnaderef02_Key.l0 kq l0 x3_1 x4_1 = some r) ∧ Aside0 (kq ≤ k) ∧ Aside0 (Below w.heap.size w w'))
  case atStart => exact ⟨((⟨#[]⟩ : ByteArray)), (0), (by first | rfl | (simp; done) | (simp [*]; done)), (by first | rfl | (simp; done) | (simp [*]; done)), H', ⟨Nat.le_refl _⟩, ⟨by repeat (first | (with_reducible first | exact HB.out | apply below_alloc | apply pw_below_drewN | apply below_drew1) | exact HB.out)⟩⟩
  case round =>
    clear H'
    try clear c1
    obtain ⟨x3_1, x4_1, rfl, rfl, HA, HK1, HB⟩ := hrel
    cases gk with
    | zero => exact absurd HA.out (by simp [colonnaderef02_Key.l0])
    | succ k1 =>
      have H := HA.out
      clear HA
      simp only [colonnaderef02_Key.l0] at H
      by_cases c2 : x4_1 < (l0.length : Int)
      · rw [if_pos c2] at H
        have c2b0 : decide (x4_1 < (l0.length : Int)) = true := decide_eq_true c2
        clear c2
        by_cases c3 : 0 ≤ x4_1
        · rw [if_pos c3] at H
          have c3b0 : decide (0 ≤ x4_1) = true := decide_eq_true c3
          clear c3
          replace H := Option.bind_eq_some_iff.mp H
          obtain ⟨t258, A40, H⟩ := H
          replace H : (if x3_1.size + t258.size ≤ 9223372036854775807 then (if ((rd_T25 l0 x4_1).f0.f0) = 3 then (if ((rd_T25 l0 x4_1).f0.f1) < 0 then ((some (([48 + ((99 : Int) / 10), 48 + ((99 : Int) % 10)] : List Int) : List Int)).bind fun y259 => (if (x3_1 ++ t258).size + (strOfNums y259).size ≤ 9223372036854775807 then (colonnaderef02_Key.j1 k1 l0 ((x3_1 ++ t258) ++ (strOfNums y259)) x4_1 ((rd_T25 l0 x4_1).f0.f0) ((rd_T25 l0 x4_1).f0.f0) ((rd_T25 l0 x4_1).f0.f1) ((rd_T25 l0 x4_1).f1) ((rd_T25 l0 x4_1).f2) ((rd_T25 l0 x4_1).f3)) else (none))) else (if ((rd_T25 l0 x4_1).f0.f1) > 18 then ((some (([48 + ((99 : Int) / 10), 48 + ((99 : Int) % 10)] : List Int) : List Int)).bind fun y262 => (if (x3_1 ++ t258).size + (strOfNums y262).size ≤ 9223372036854775807 then (colonnaderef02_Key.j1 k1 l0 ((x3_1 ++ t258) ++ (strOfNums y262)) x4_1 ((rd_T25 l0 x4_1).f0.f0) ((rd_T25 l0 x4_1).f0.f0) ((rd_T25 l0 x4_1).f0.f1) ((rd_T25 l0 x4_1).f1) ((rd_T25 l0 x4_1).f2) ((rd_T25 l0 x4_1).f3)) else (none))) else ((some (([(wrap64 (48 + (wrap64 (Int.tdiv ((rd_T25 l0 x4_1).f0.f1) 10)))) % 256, (wrap64 (48 + (Int.tmod ((rd_T25 l0 x4_1).f0.f1) 10))) % 256] : List Int) : List Int)).bind fun y265 => (if (x3_1 ++ t258).size + (strOfNums y265).size ≤ 9223372036854775807 then (colonnaderef02_Key.j1 k1 l0 ((x3_1 ++ t258) ++ (strOfNums y265)) x4_1 ((rd_T25 l0 x4_1).f0.f0) ((rd_T25 l0 x4_1).f0.f0) ((rd_T25 l0 x4_1).f0.f1) ((rd_T25 l0 x4_1).f1) ((rd_T25 l0 x4_1).f2) ((rd_T25 l0 x4_1).f3)) else (none))))) else (colonnaderef02_Key.j1 k1 l0 (x3_1 ++ t258) x4_1 ((rd_T25 l0 x4_1).f0.f0) ((rd_T25 l0 x4_1).f0.f0) ((rd_T25 l0 x4_1).f0.f1) ((rd_T25 l0 x4_1).f1) ((rd_T25 l0 x4_1).f2) ((rd_T25 l0 x4_1).f3))) else (none)) = some r := H
          have A4 := Aside0.mk A40
          clear A40
          by_cases c5 : x3_1.size + t258.size ≤ 9223372036854775807
          · rw [if_pos c5] at H
            have c5b0 := eq_true c5
            (try (have c5n := c5; simp [size_lit] at c5n))
            (try (have c5m := eq_false (Nat.not_lt.2 c5); simp only [ByteArray.size_append, size_lit, List.length_cons, List.length_nil, Nat.reduceAdd, Nat.zero_add] at c5m))
            have c5b1 : decide (x3_1.size + t258.size ≤ 9223372036854775807) = true := decide_eq_true c5
            try have c5b2 : (9223372036854775807 < x3_1.size + t258.size) = False := eq_false (Nat.not_lt.2 c5)
            have HC6 := Aside0.mk H
            clear H
            have p256 : 0 ≤ (x4_1 : Int) := of_decide_eq_true (by first | (with_reducible assumption) | assumption)
            have q256 : x4_1 < (l0.length : Int) := of_decide_eq_true (by first | (with_reducible assumption) | assumption)
            obtain ⟨ad256, e256, hx256_0, hx256_1, hx256_2, hx256_3, hx256_4⟩ := at_T25 HR0.out x4_1 p256 q256
            cases e256
            replace hx256_0 := (HB.out.cell (World.block_lt_of_cell? w _ hx256_0)).trans hx256_0
            replace hx256_1 := (HB.out.cell (World.block_lt_of_cell? w _ hx256_1)).trans hx256_1
            replace hx256_2 := (HB.out.cell (World.block_lt_of_cell? w _ hx256_2)).trans hx256_2
            replace hx256_3 := (HB.out.cell (World.block_lt_of_cell? w _ hx256_3)).trans hx256_3
            replace hx256_4 := (HB.out.cell (World.block_lt_of_cell? w _ hx256_4)).trans hx256_4
            replace p256 := eq_true p256
            replace q256 := eq_true q256
            go_upto_if 26 with (first | ((with_reducible refine gate_dst (N := 5) rfl ?_); refine box_event ?hg (N := 5) ?hd (cs := #[.int .i64 0, .int .i64 0, .bool false, .int .i64 0, .string (⟨#[]⟩ : ByteArray)]) (t := 25) ?hr ?_; (case hd => rfl); (case hg => rfl); (case hr => first | (go_simp; done) | (go_simp; rfl)); intro gb257 hg w7 hbox hb; have n0_ := Aside0.mk (below_step (by repeat (first | (with_reducible first | exact HB.out | apply below_alloc | apply pw_below_drewN | apply below_drew1) | exact HB.out)) hb); have n1_ := Aside0.mk (hbox); have n2_ := Aside0.mk ((by rw [hg]; exact (below_size (by repeat (first | (with_reducible first | exact HB.out | apply below_alloc | apply pw_below_drewN | apply below_drew1) | exact HB.out))) : w.heap.size ≤ gb257)); have n3_ := Aside0.mk ((by rw [hg]; exact (below_size (by repeat (first | (with_reducible first | exact HB.out | apply below_alloc | apply pw_below_drewN | apply below_drew1) | exact HB.out))) : w.heap.size ≤ gb257)); clear HB; have HB := n0_; have BK257 := n1_; have GW257 := n2_; have GE257 := n3_; clear n0_ n1_ n2_ n3_; clear hb hbox hg; have hcz8_0 : w7.cell? ⟨gb257, 0, none⟩ = some (.int .i64 0) := (blk_cell BK257.out 0).trans rfl; have hcz8_1 : w7.cell? ⟨gb257, 1, none⟩ = some (.int .i64 0) := (blk_cell BK257.out 1).trans rfl; have hcz8_2 : w7.cell? ⟨gb257, 2, none⟩ = some (.bool false) := (blk_cell BK257.out 2).trans rfl; have hcz8_3 : w7.cell? ⟨gb257, 3, none⟩ = some (.int .i64 0) := (blk_cell BK257.out 3).trans rfl; have hcz8_4 : w7.cell? ⟨gb257, 4, none⟩ = some (.string (⟨#[]⟩ : ByteArray)) := (blk_cell BK257.out 4).trans rfl; have hfz8_0 := blk_frozen BK257.out 0; have hfz8_1 := blk_frozen BK257.out 1; have hfz8_2 := blk_frozen BK257.out 2; have hfz8_3 := blk_frozen BK257.out 3; have hfz8_4 := blk_frozen BK257.out 4) | ((with_reducible refine gate_callee (f := 50) rfl ?_); refine goesL_ (some 23) rfl rfl Tryd.func50 (by kernel_rfl) rfl #[.int .i64 ((rd_T25 l0 x4_1).f0.f0)] rfl (by (try simp only [List.map_toArray, List.map_cons, List.map_nil]); first | done | rfl | (simp only [List.length_drop, List.length_take]; rfl)) ?_; (with_reducible refine (colonnaderef01_FormatInt.calls k1 ((rd_T25 l0 x4_1).f0.f0) t258 _ A4.out).mono ?_); rintro e w9 ⟨rfl, hb⟩; refine ⟨_, rfl, ?_⟩; have n0_ := Aside0.mk (blk_below (g := gb257) (o := .cells #[.int .i64 ((rd_T25 l0 x4_1).f0.f0), .int .i64 ((rd_T25 l0 x4_1).f0.f1), .bool ((rd_T25 l0 x4_1).f1), .int .i64 ((rd_T25 l0 x4_1).f2), .string ((rd_T25 l0 x4_1).f3)] 25 (0, 0)) (by (with_reducible repeat (first | refine blk_drewN ?_ _ | refine blk_drew ?_ | refine blk_alloc ?_ _)); refine blk_put (cs := #[.int .i64 ((rd_T25 l0 x4_1).f0.f0), .int .i64 ((rd_T25 l0 x4_1).f0.f1), .bool ((rd_T25 l0 x4_1).f1), .int .i64 ((rd_T25 l0 x4_1).f2), .string (⟨#[]⟩ : ByteArray)]) ?_ 4 _ rfl; (with_reducible repeat (first | refine blk_drewN ?_ _ | refine blk_drew ?_ | refine blk_alloc ?_ _)); refine blk_put (cs := #[.int .i64 ((rd_T25 l0 x4_1).f0.f0), .int .i64 ((rd_T25 l0 x4_1).f0.f1), .bool ((rd_T25 l0 x4_1).f1), .int .i64 0, .string (⟨#[]⟩ : ByteArray)]) ?_ 3 _ rfl; (with_reducible repeat (first | refine blk_drewN ?_ _ | refine blk_drew ?_ | refine blk_alloc ?_ _)); refine blk_put (cs := #[.int .i64 ((rd_T25 l0 x4_1).f0.f0), .int .i64 ((rd_T25 l0 x4_1).f0.f1), .bool false, .int .i64 0, .string (⟨#[]⟩ : ByteArray)]) ?_ 2 _ rfl; (with_reducible repeat (first | refine blk_drewN ?_ _ | refine blk_drew ?_ | refine blk_alloc ?_ _)); refine blk_put (cs := #[.int .i64 ((rd_T25 l0 x4_1).f0.f0), .int .i64 0, .bool false, .int .i64 0, .string (⟨#[]⟩ : ByteArray)]) ?_ 1 _ rfl; (with_reducible repeat (first | refine blk_drewN ?_ _ | refine blk_drew ?_ | refine blk_alloc ?_ _)); refine blk_put (cs := #[.int .i64 0, .int .i64 0, .bool false, .int .i64 0, .string (⟨#[]⟩ : ByteArray)]) ?_ 0 _ rfl; (with_reducible repeat (first | refine blk_drewN ?_ _ | refine blk_drew ?_ | refine blk_alloc ?_ _)); exact BK257.out) hb); have n1_ := Aside0.mk (below_step (by repeat (first | (with_reducible first | exact HB.out | apply below_alloc | apply pw_below_drewN | apply below_drew1 | refine below_set ?_ GE257.out) | exact HB.out)) hb); clear BK257; clear HB; have BK257 := n0_; have HB := n1_; clear n0_ n1_; (try clear hb); (try clear hb2); (try clear hk); (try clear hi)))
            (try simp only [Act.put, List.setIfInBounds_toArray, List.set_cons_zero, List.set_cons_succ])
            go_cut [3] (fun v3 wc => ∃ (kq : Nat) (x3_5 : ByteArray), v3 = .string x3_5 ∧ Aside0 (colonnaderef02_Key.j1 kq l0 x3_5 x4_1 ((rd_T25 l0 x4_1).f0.f0) ((rd_T25 l0 x4_1).f0.f0) ((rd_T25 l0 x4_1).f0.f1) ((rd_T25 l0 x4_1).f1) ((rd_T25 l0 x4_1).f2) ((rd_T25 l0 x4_1).f3) = some r) ∧ Aside0 (kq ≤ k1) ∧ Aside0 (wc.heap[gb257]? = some (.cells #[.int .i64 ((rd_T25 l0 x4_1).f0.f0), .int .i64 ((rd_T25 l0 x4_1).f0.f1), .bool ((rd_T25 l0 x4_1).f1), .int .i64 ((rd_T25 l0 x4_1).f2), .string ((rd_T25 l0 x4_1).f3)] 25 (0, 0))) ∧ Aside0 (Below w.heap.size w wc))
            case first =>
              have H := HC6.out
              clear HC6
              by_cases c10 : ((rd_T25 l0 x4_1).f0.f0) = 3
              · rw [if_pos c10] at H
                have c10b0 : (((rd_T25 l0 x4_1).f0.f0) == 3) = true := beq_iff_eq.mpr c10
                have c10b1 : (((rd_T25 l0 x4_1).f0.f0) != 3) = false := bne_eq_false_iff_eq.mpr c10
                clear c10
                (first | rw [c10b0] | (simp only [i64_w, i32_w]; rw [c10b0]) | skip)
                by_cases c11 : ((rd_T25 l0 x4_1).f0.f1) < 0
                · rw [if_pos c11] at H
                  have c11b0 : decide (((rd_T25 l0 x4_1).f0.f1) < 0) = true := decide_eq_true c11
                  clear c11
                  obtain ⟨y259, hy259⟩ : ∃ y_ : List Int, y_ = (([48 + ((99 : Int) / 10), 48 + ((99 : Int) % 10)] : List Int)) := ⟨_, rfl⟩
                  replace H : (if (x3_1 ++ t258).size + (strOfNums y259).size ≤ 9223372036854775807 then (colonnaderef02_Key.j1 k1 l0 ((x3_1 ++ t258) ++ (strOfNums y259)) x4_1 ((rd_T25 l0 x4_1).f0.f0) ((rd_T25 l0 x4_1).f0.f0) ((rd_T25 l0 x4_1).f0.f1) ((rd_T25 l0 x4_1).f1) ((rd_T25 l0 x4_1).f2) ((rd_T25 l0 x4_1).f3)) else (none)) = some r := by first | (rw [hy259]; with_reducible exact H) | (have H2_ := (Option.bind_some _ _).symm.trans H; rw [hy259]; with_reducible exact H2_) | (have H2_ := (Option.bind_some _ _).symm.trans H; with_reducible exact H2_) | with_reducible exact H | (rw [hy259]; exact H) | exact H
                  have Ny259 := Aside0.mk hy259
                  clear hy259
                  by_cases c12 : (x3_1 ++ t258).size + (strOfNums y259).size ≤ 9223372036854775807
                  · rw [if_pos c12] at H
                    have c12b0 := eq_true c12
                    (try (have c12n := c12; simp [size_lit] at c12n))
                    (try (have c12m := eq_false (Nat.not_lt.2 c12); simp only [ByteArray.size_append, size_lit, List.length_cons, List.length_nil, Nat.reduceAdd, Nat.zero_add] at c12m))
                    have c12b1 : decide ((x3_1 ++ t258).size + (strOfNums y259).size ≤ 9223372036854775807) = true := decide_eq_true c12
                    try have c12b2 : (9223372036854775807 < (x3_1 ++ t258).size + (strOfNums y259).size) = False := eq_false (Nat.not_lt.2 c12)
                    have H' := Aside0.mk H
                    clear H
                    have hcz13_0 : w9.cell? ⟨gb257, 0, none⟩ = some (.int .i64 ((rd_T25 l0 x4_1).f0.f0)) := (blk_cell BK257.out 0).trans rfl
                    have hcz13_1 : w9.cell? ⟨gb257, 1, none⟩ = some (.int .i64 ((rd_T25 l0 x4_1).f0.f1)) := (blk_cell BK257.out 1).trans rfl
                    have hcz13_2 : w9.cell? ⟨gb257, 2, none⟩ = some (.bool ((rd_T25 l0 x4_1).f1)) := (blk_cell BK257.out 2).trans rfl
                    have hcz13_3 : w9.cell? ⟨gb257, 3, none⟩ = some (.int .i64 ((rd_T25 l0 x4_1).f2)) := (blk_cell BK257.out 3).trans rfl
                    have hcz13_4 : w9.cell? ⟨gb257, 4, none⟩ = some (.string ((rd_T25 l0 x4_1).f3)) := (blk_cell BK257.out 4).trans rfl
                    have hfz13_0 := blk_frozen BK257.out 0
                    have hfz13_1 := blk_frozen BK257.out 1
                    have hfz13_2 := blk_frozen BK257.out 2
                    have hfz13_3 := blk_frozen BK257.out 3
                    have hfz13_4 := blk_frozen BK257.out 4
                    go_wp2_with (first | ((with_reducible refine gate_dst (N := 45) rfl ?_); refine Kd.R_lit (Kd.int .u8) _ 5 ?hg (N := 45) ?hd (xs := ([48 + ((99 : Int) / 10), 48 + ((99 : Int) % 10)] : List Int)) (inner := [.int .u8 (48 + ((99 : Int) / 10)), .int .u8 (48 + ((99 : Int) % 10))]) (ok := fun _ => True) (okp := fun _ => True) ?hr ?hp (fun _ hk => hk) trivial (Below.refl _ _) (Nat.le_refl _) (by simp) ?_; (case hd => rfl); (case hg => rfl); (case hr => first | (go_simp; done) | (go_simp; rfl)); (case hp => exact (Reps.one (show Kd.M (Kd.int .u8) _ _ _ (48 + ((99 : Int) / 10)) [.int .u8 (48 + ((99 : Int) / 10))] from rfl) (Reps.one (show Kd.M (Kd.int .u8) _ _ _ (48 + ((99 : Int) % 10)) [.int .u8 (48 + ((99 : Int) % 10))] from rfl) (Reps.none _ _)))); intro v260 w14 ho15 hb hg_ hnew_; clear hg_ hnew_; (first | rw [← Ny259.out] at ho15 | (simp only [Int.reduceToNat] at ho15; rw [← Ny259.out] at ho15)); have n0_ := Aside0.mk (Kd.R_lower ho15 (below_size (by repeat (first | (with_reducible first | exact HB.out | apply below_alloc | apply pw_below_drewN | apply below_drew1 | refine below_set ?_ GE257.out) | exact HB.out)))); have n1_ := Aside0.mk (blk_below (g := gb257) (o := .cells #[.int .i64 ((rd_T25 l0 x4_1).f0.f0), .int .i64 ((rd_T25 l0 x4_1).f0.f1), .bool ((rd_T25 l0 x4_1).f1), .int .i64 ((rd_T25 l0 x4_1).f2), .string ((rd_T25 l0 x4_1).f3)] 25 (0, 0)) (by (with_reducible repeat (first | refine blk_drewN ?_ _ | refine blk_drew ?_ | refine blk_alloc ?_ _)); exact BK257.out) hb); have n2_ := Aside0.mk (below_step (by repeat (first | (with_reducible first | exact HB.out | apply below_alloc | apply pw_below_drewN | apply below_drew1 | refine below_set ?_ GE257.out) | exact HB.out)) hb); clear BK257; clear HB; have HO261 := n0_; have BK257 := n1_; have HB := n2_; clear n0_ n1_ n2_; clear hb ho15; have hcv16 := own_string (P := Tryd.prog) Tryd.underlying61 Tryd.underlying5 Tryd.underlying9 (Kd.own_of_R HO261.out)))
                    go_meet
                    case rel => exact ⟨_, ((x3_1 ++ t258) ++ (strOfNums y259)), (by first | rfl | (simp; done) | (simp [*]; done)), H', ⟨by have := HK1.out; first | omega | exact Nat.le_refl _⟩, ⟨by (with_reducible repeat (first | refine blk_drewN ?_ _ | refine blk_drew ?_ | refine blk_alloc ?_ _)); exact BK257.out⟩, ⟨by repeat (first | (with_reducible first | exact HB.out | apply below_alloc | apply pw_below_drewN | apply below_drew1 | refine below_set ?_ GE257.out) | exact HB.out)⟩⟩
                  · rw [if_neg c12] at H
                    exact absurd H (by simp)
                · rw [if_neg c11] at H
                  have c11b0 : decide (((rd_T25 l0 x4_1).f0.f1) < 0) = false := decide_eq_false c11
                  clear c11
                  by_cases c17 : ((rd_T25 l0 x4_1).f0.f1) > 18
                  · rw [if_pos c17] at H
                    have c17b0 : decide (18 < ((rd_T25 l0 x4_1).f0.f1)) = true := decide_eq_true c17
                    clear c17
                    obtain ⟨y262, hy262⟩ : ∃ y_ : List Int, y_ = (([48 + ((99 : Int) / 10), 48 + ((99 : Int) % 10)] : List Int)) := ⟨_, rfl⟩
                    replace H : (if (x3_1 ++ t258).size + (strOfNums y262).size ≤ 9223372036854775807 then (colonnaderef02_Key.j1 k1 l0 ((x3_1 ++ t258) ++ (strOfNums y262)) x4_1 ((rd_T25 l0 x4_1).f0.f0) ((rd_T25 l0 x4_1).f0.f0) ((rd_T25 l0 x4_1).f0.f1) ((rd_T25 l0 x4_1).f1) ((rd_T25 l0 x4_1).f2) ((rd_T25 l0 x4_1).f3)) else (none)) = some r := by first | (rw [hy262]; with_reducible exact H) | (have H2_ := (Option.bind_some _ _).symm.trans H; rw [hy262]; with_reducible exact H2_) | (have H2_ := (Option.bind_some _ _).symm.trans H; with_reducible exact H2_) | with_reducible exact H | (rw [hy262]; exact H) | exact H
                    have Ny262 := Aside0.mk hy262
                    clear hy262
                    by_cases c18 : (x3_1 ++ t258).size + (strOfNums y262).size ≤ 9223372036854775807
                    · rw [if_pos c18] at H
                      have c18b0 := eq_true c18
                      (try (have c18n := c18; simp [size_lit] at c18n))
                      (try (have c18m := eq_false (Nat.not_lt.2 c18); simp only [ByteArray.size_append, size_lit, List.length_cons, List.length_nil, Nat.reduceAdd, Nat.zero_add] at c18m))
                      have c18b1 : decide ((x3_1 ++ t258).size + (strOfNums y262).size ≤ 9223372036854775807) = true := decide_eq_true c18
                      try have c18b2 : (9223372036854775807 < (x3_1 ++ t258).size + (strOfNums y262).size) = False := eq_false (Nat.not_lt.2 c18)
                      have H' := Aside0.mk H
                      clear H
                      have hcz19_0 : w9.cell? ⟨gb257, 0, none⟩ = some (.int .i64 ((rd_T25 l0 x4_1).f0.f0)) := (blk_cell BK257.out 0).trans rfl
                      have hcz19_1 : w9.cell? ⟨gb257, 1, none⟩ = some (.int .i64 ((rd_T25 l0 x4_1).f0.f1)) := (blk_cell BK257.out 1).trans rfl
                      have hcz19_2 : w9.cell? ⟨gb257, 2, none⟩ = some (.bool ((rd_T25 l0 x4_1).f1)) := (blk_cell BK257.out 2).trans rfl
                      have hcz19_3 : w9.cell? ⟨gb257, 3, none⟩ = some (.int .i64 ((rd_T25 l0 x4_1).f2)) := (blk_cell BK257.out 3).trans rfl
                      have hcz19_4 : w9.cell? ⟨gb257, 4, none⟩ = some (.string ((rd_T25 l0 x4_1).f3)) := (blk_cell BK257.out 4).trans rfl
                      have hfz19_0 := blk_frozen BK257.out 0
                      have hfz19_1 := blk_frozen BK257.out 1
                      have hfz19_2 := blk_frozen BK257.out 2
                      have hfz19_3 := blk_frozen BK257.out 3
                      have hfz19_4 := blk_frozen BK257.out 4
                      go_wp2_with (first | ((with_reducible refine gate_dst (N := 45) rfl ?_); refine Kd.R_lit (Kd.int .u8) _ 5 ?hg (N := 45) ?hd (xs := ([48 + ((99 : Int) / 10), 48 + ((99 : Int) % 10)] : List Int)) (inner := [.int .u8 (48 + ((99 : Int) / 10)), .int .u8 (48 + ((99 : Int) % 10))]) (ok := fun _ => True) (okp := fun _ => True) ?hr ?hp (fun _ hk => hk) trivial (Below.refl _ _) (Nat.le_refl _) (by simp) ?_; (case hd => rfl); (case hg => rfl); (case hr => first | (go_simp; done) | (go_simp; rfl)); (case hp => exact (Reps.one (show Kd.M (Kd.int .u8) _ _ _ (48 + ((99 : Int) / 10)) [.int .u8 (48 + ((99 : Int) / 10))] from rfl) (Reps.one (show Kd.M (Kd.int .u8) _ _ _ (48 + ((99 : Int) % 10)) [.int .u8 (48 + ((99 : Int) % 10))] from rfl) (Reps.none _ _)))); intro v263 w20 ho21 hb hg_ hnew_; clear hg_ hnew_; (first | rw [← Ny262.out] at ho21 | (simp only [Int.reduceToNat] at ho21; rw [← Ny262.out] at ho21)); have n0_ := Aside0.mk (Kd.R_lower ho21 (below_size (by repeat (first | (with_reducible first | exact HB.out | apply below_alloc | apply pw_below_drewN | apply below_drew1 | refine below_set ?_ GE257.out) | exact HB.out)))); have n1_ := Aside0.mk (blk_below (g := gb257) (o := .cells #[.int .i64 ((rd_T25 l0 x4_1).f0.f0), .int .i64 ((rd_T25 l0 x4_1).f0.f1), .bool ((rd_T25 l0 x4_1).f1), .int .i64 ((rd_T25 l0 x4_1).f2), .string ((rd_T25 l0 x4_1).f3)] 25 (0, 0)) (by (with_reducible repeat (first | refine blk_drewN ?_ _ | refine blk_drew ?_ | refine blk_alloc ?_ _)); exact BK257.out) hb); have n2_ := Aside0.mk (below_step (by repeat (first | (with_reducible first | exact HB.out | apply below_alloc | apply pw_below_drewN | apply below_drew1 | refine below_set ?_ GE257.out) | exact HB.out)) hb); clear BK257; clear HB; have HO264 := n0_; have BK257 := n1_; have HB := n2_; clear n0_ n1_ n2_; clear hb ho21; have hcv22 := own_string (P := Tryd.prog) Tryd.underlying61 Tryd.underlying5 Tryd.underlying9 (Kd.own_of_R HO264.out)))
                      go_meet
                      case rel => exact ⟨_, ((x3_1 ++ t258) ++ (strOfNums y262)), (by first | rfl | (simp; done) | (simp [*]; done)), H', ⟨by have := HK1.out; first | omega | exact Nat.le_refl _⟩, ⟨by (with_reducible repeat (first | refine blk_drewN ?_ _ | refine blk_drew ?_ | refine blk_alloc ?_ _)); exact BK257.out⟩, ⟨by repeat (first | (with_reducible first | exact HB.out | apply below_alloc | apply pw_below_drewN | apply below_drew1 | refine below_set ?_ GE257.out) | exact HB.out)⟩⟩
                    · rw [if_neg c18] at H
                      exact absurd H (by simp)
                  · rw [if_neg c17] at H
                    have c17b0 : decide (18 < ((rd_T25 l0 x4_1).f0.f1)) = false := decide_eq_false c17
                    clear c17
                    obtain ⟨y265, hy265⟩ : ∃ y_ : List Int, y_ = (([(wrap64 (48 + (wrap64 (Int.tdiv ((rd_T25 l0 x4_1).f0.f1) 10)))) % 256, (wrap64 (48 + (Int.tmod ((rd_T25 l0 x4_1).f0.f1) 10))) % 256] : List Int)) := ⟨_, rfl⟩
                    replace H : (if (x3_1 ++ t258).size + (strOfNums y265).size ≤ 9223372036854775807 then (colonnaderef02_Key.j1 k1 l0 ((x3_1 ++ t258) ++ (strOfNums y265)) x4_1 ((rd_T25 l0 x4_1).f0.f0) ((rd_T25 l0 x4_1).f0.f0) ((rd_T25 l0 x4_1).f0.f1) ((rd_T25 l0 x4_1).f1) ((rd_T25 l0 x4_1).f2) ((rd_T25 l0 x4_1).f3)) else (none)) = some r := by first | (rw [hy265]; with_reducible exact H) | (have H2_ := (Option.bind_some _ _).symm.trans H; rw [hy265]; with_reducible exact H2_) | (have H2_ := (Option.bind_some _ _).symm.trans H; with_reducible exact H2_) | with_reducible exact H | (rw [hy265]; exact H) | exact H
                    have Ny265 := Aside0.mk hy265
                    clear hy265
                    by_cases c23 : (x3_1 ++ t258).size + (strOfNums y265).size ≤ 9223372036854775807
                    · rw [if_pos c23] at H
                      have c23b0 := eq_true c23
                      (try (have c23n := c23; simp [size_lit] at c23n))
                      (try (have c23m := eq_false (Nat.not_lt.2 c23); simp only [ByteArray.size_append, size_lit, List.length_cons, List.length_nil, Nat.reduceAdd, Nat.zero_add] at c23m))
                      have c23b1 : decide ((x3_1 ++ t258).size + (strOfNums y265).size ≤ 9223372036854775807) = true := decide_eq_true c23
                      try have c23b2 : (9223372036854775807 < (x3_1 ++ t258).size + (strOfNums y265).size) = False := eq_false (Nat.not_lt.2 c23)
                      have H' := Aside0.mk H
                      clear H
                      have hcz24_0 : w9.cell? ⟨gb257, 0, none⟩ = some (.int .i64 ((rd_T25 l0 x4_1).f0.f0)) := (blk_cell BK257.out 0).trans rfl
                      have hcz24_1 : w9.cell? ⟨gb257, 1, none⟩ = some (.int .i64 ((rd_T25 l0 x4_1).f0.f1)) := (blk_cell BK257.out 1).trans rfl
                      have hcz24_2 : w9.cell? ⟨gb257, 2, none⟩ = some (.bool ((rd_T25 l0 x4_1).f1)) := (blk_cell BK257.out 2).trans rfl
                      have hcz24_3 : w9.cell? ⟨gb257, 3, none⟩ = some (.int .i64 ((rd_T25 l0 x4_1).f2)) := (blk_cell BK257.out 3).trans rfl
                      have hcz24_4 : w9.cell? ⟨gb257, 4, none⟩ = some (.string ((rd_T25 l0 x4_1).f3)) := (blk_cell BK257.out 4).trans rfl
                      have hfz24_0 := blk_frozen BK257.out 0
                      have hfz24_1 := blk_frozen BK257.out 1
                      have hfz24_2 := blk_frozen BK257.out 2
                      have hfz24_3 := blk_frozen BK257.out 3
                      have hfz24_4 := blk_frozen BK257.out 4
                      go_wp2_with (first | ((with_reducible refine gate_dst (N := 45) rfl ?_); refine Kd.R_lit (Kd.int .u8) _ 5 ?hg (N := 45) ?hd (xs := ([(wrap64 (48 + (wrap64 (Int.tdiv ((rd_T25 l0 x4_1).f0.f1) 10)))) % 256, (wrap64 (48 + (Int.tmod ((rd_T25 l0 x4_1).f0.f1) 10))) % 256] : List Int)) (inner := [.int .u8 ((wrap64 (48 + (wrap64 (Int.tdiv ((rd_T25 l0 x4_1).f0.f1) 10)))) % 256), .int .u8 ((wrap64 (48 + (Int.tmod ((rd_T25 l0 x4_1).f0.f1) 10))) % 256)]) (ok := fun _ => True) (okp := fun _ => True) ?hr ?hp (fun _ hk => hk) trivial (Below.refl _ _) (Nat.le_refl _) (by simp) ?_; (case hd => rfl); (case hg => rfl); (case hr => first | (go_simp; done) | (go_simp; rfl)); (case hp => exact (Reps.one (show Kd.M (Kd.int .u8) _ _ _ ((wrap64 (48 + (wrap64 (Int.tdiv ((rd_T25 l0 x4_1).f0.f1) 10)))) % 256) [.int .u8 ((wrap64 (48 + (wrap64 (Int.tdiv ((rd_T25 l0 x4_1).f0.f1) 10)))) % 256)] from rfl) (Reps.one (show Kd.M (Kd.int .u8) _ _ _ ((wrap64 (48 + (Int.tmod ((rd_T25 l0 x4_1).f0.f1) 10))) % 256) [.int .u8 ((wrap64 (48 + (Int.tmod ((rd_T25 l0 x4_1).f0.f1) 10))) % 256)] from rfl) (Reps.none _ _)))); intro v266 w25 ho26 hb hg_ hnew_; clear hg_ hnew_; (first | rw [← Ny265.out] at ho26 | (simp only [Int.reduceToNat] at ho26; rw [← Ny265.out] at ho26)); have n0_ := Aside0.mk (Kd.R_lower ho26 (below_size (by repeat (first | (with_reducible first | exact HB.out | apply below_alloc | apply pw_below_drewN | apply below_drew1 | refine below_set ?_ GE257.out) | exact HB.out)))); have n1_ := Aside0.mk (blk_below (g := gb257) (o := .cells #[.int .i64 ((rd_T25 l0 x4_1).f0.f0), .int .i64 ((rd_T25 l0 x4_1).f0.f1), .bool ((rd_T25 l0 x4_1).f1), .int .i64 ((rd_T25 l0 x4_1).f2), .string ((rd_T25 l0 x4_1).f3)] 25 (0, 0)) (by (with_reducible repeat (first | refine blk_drewN ?_ _ | refine blk_drew ?_ | refine blk_alloc ?_ _)); exact BK257.out) hb); have n2_ := Aside0.mk (below_step (by repeat (first | (with_reducible first | exact HB.out | apply below_alloc | apply pw_below_drewN | apply below_drew1 | refine below_set ?_ GE257.out) | exact HB.out)) hb); clear BK257; clear HB; have HO267 := n0_; have BK257 := n1_; have HB := n2_; clear n0_ n1_ n2_; clear hb ho26; have hcv27 := own_string (P := Tryd.prog) Tryd.underlying61 Tryd.underlying5 Tryd.underlying9 (Kd.own_of_R HO267.out)))
                      go_meet
                      case rel => exact ⟨_, ((x3_1 ++ t258) ++ (strOfNums y265)), (by first | rfl | (simp; done) | (simp [*]; done)), H', ⟨by have := HK1.out; first | omega | exact Nat.le_refl _⟩, ⟨by (with_reducible repeat (first | refine blk_drewN ?_ _ | refine blk_drew ?_ | refine blk_alloc ?_ _)); exact BK257.out⟩, ⟨by repeat (first | (with_reducible first | exact HB.out | apply below_alloc | apply pw_below_drewN | apply below_drew1 | refine below_set ?_ GE257.out) | exact HB.out)⟩⟩
                    · rw [if_neg c23] at H
                      exact absurd H (by simp)
              · rw [if_neg c10] at H
                have c10b0 : (((rd_T25 l0 x4_1).f0.f0) == 3) = false := beq_eq_false_iff_ne.mpr c10
                have c10b1 : (((rd_T25 l0 x4_1).f0.f0) != 3) = true := bne_iff_ne.mpr c10
                (first | rw [c10b0] | (simp only [i64_w, i32_w]; rw [c10b0]) | skip)
                have H' := Aside0.mk H
                clear H
                go_wp2
                go_meet
                case rel => exact ⟨_, (x3_1 ++ t258), (by first | rfl | (simp; done) | (simp [*]; done)), H', ⟨by have := HK1.out; first | omega | exact Nat.le_refl _⟩, ⟨by (with_reducible repeat (first | refine blk_drewN ?_ _ | refine blk_drew ?_ | refine blk_alloc ?_ _)); exact BK257.out⟩, ⟨by repeat (first | (with_reducible first | exact HB.out | apply below_alloc | apply pw_below_drewN | apply below_drew1 | refine below_set ?_ GE257.out) | exact HB.out)⟩⟩
            case rest =>
              clear HC6
              try clear c1
              try clear hcv1
              try clear c2
              try clear c2b0
              try clear p2
              try clear q2
              try clear hx2
              try clear hcv2
              try clear c3
              try clear c3b0
              try clear c5
              try clear c5b0
              try clear c5b1
              try clear c5b2
              try clear p6
              try clear c10
              try clear c10b0
              try clear c10b1
              try clear c11
              try clear c11b0
              try clear c12
              try clear c12b0
              try clear c12b1
              try clear c12b2
              try clear c15
              try clear hcv16
              try clear c17
              try clear c17b0
              try clear c18
              try clear c18b0
              try clear c18b1
              try clear c18b2
              try clear hcv22
              try clear c23
              try clear c23b0
              try clear c23b1
              try clear c23b2
              try clear p25
              try clear q25
              try clear hx25
              try clear hcv27
              try clear hcz13_0
              try clear hcz13_1
              try clear hcz13_2
              try clear hcz13_3
              try clear hcz13_4
              try clear hcz19_0
              try clear hcz19_1
              try clear hcz19_2
              try clear hcz19_3
              try clear hcz19_4
              try clear hcz24_0
              try clear hcz24_1
              try clear hcz24_2
              try clear hcz24_3
              try clear hcz24_4
              try clear hcz8_0
              try clear hcz8_1
              try clear hcz8_2
              try clear hcz8_3
              try clear hcz8_4
              try clear hfz13_0
              try clear hfz13_1
              try clear hfz13_2
              try clear hfz13_3
              try clear hfz13_4
              try clear hfz19_0
              try clear hfz19_1
              try clear hfz19_2
              try clear hfz19_3
              try clear hfz19_4
              try clear hfz24_0
              try clear hfz24_1
              try clear hfz24_2
              try clear hfz24_3
              try clear hfz24_4
              try clear hfz8_0
              try clear hfz8_1
              try clear hfz8_2
              try clear hfz8_3
              try clear hfz8_4
              try clear hx256_0
              try clear hx256_1
              try clear hx256_2
              try clear hx256_3
              try clear hx256_4
              try clear p256
              try clear q256
              obtain ⟨kq, x3_5, rfl, HA, HJ5, BK257, HB⟩ := hcut
              cases kq with
              | zero => exact absurd HA.out (by simp [colonnaderef02_Key.j1])
              | succ kj5 =>
                have H := HA.out
                clear HA
                simp only [colonnaderef02_Key.j1] at H
                by_cases c28 : ((rd_T25 l0 x4_1).f1) = true
                · rw [if_pos c28] at H
                  have c28b0 : ((rd_T25 l0 x4_1).f1) = true := c28
                  clear c28
                  by_cases c29 : x3_5.size + 1 ≤ 9223372036854775807
                  · rw [if_pos c29] at H
                    have c29b0 := eq_true c29
                    (try (have c29n := c29; simp [size_lit] at c29n))
                    (try (have c29m := eq_false (Nat.not_lt.2 c29); simp only [ByteArray.size_append, size_lit, List.length_cons, List.length_nil, Nat.reduceAdd, Nat.zero_add] at c29m))
                    have c29b1 : decide (x3_5.size + 1 ≤ 9223372036854775807) = true := decide_eq_true c29
                    try have c29b2 : (9223372036854775807 < x3_5.size + 1) = False := eq_false (Nat.not_lt.2 c29)
                    have H' := Aside0.mk H
                    clear H
                    have hcz30_0 : wc.cell? ⟨gb257, 0, none⟩ = some (.int .i64 ((rd_T25 l0 x4_1).f0.f0)) := (blk_cell BK257.out 0).trans rfl
                    have hcz30_1 : wc.cell? ⟨gb257, 1, none⟩ = some (.int .i64 ((rd_T25 l0 x4_1).f0.f1)) := (blk_cell BK257.out 1).trans rfl
                    have hcz30_2 : wc.cell? ⟨gb257, 2, none⟩ = some (.bool ((rd_T25 l0 x4_1).f1)) := (blk_cell BK257.out 2).trans rfl
                    have hcz30_3 : wc.cell? ⟨gb257, 3, none⟩ = some (.int .i64 ((rd_T25 l0 x4_1).f2)) := (blk_cell BK257.out 3).trans rfl
                    have hcz30_4 : wc.cell? ⟨gb257, 4, none⟩ = some (.string ((rd_T25 l0 x4_1).f3)) := (blk_cell BK257.out 4).trans rfl
                    have hfz30_0 := blk_frozen BK257.out 0
                    have hfz30_1 := blk_frozen BK257.out 1
                    have hfz30_2 := blk_frozen BK257.out 2
                    have hfz30_3 := blk_frozen BK257.out 3
                    have hfz30_4 := blk_frozen BK257.out 4
                    go_wp2
                    go_roundg kj5
                    case measure => have := HK1.out; have := HJ5.out; omega
                    case rel => exact ⟨(x3_5 ++ (⟨#[110]⟩ : ByteArray)), (wrap64 (x4_1 + 1)), (by first | rfl | (simp; done) | (simp [*]; done)), (by first | rfl | (simp; done) | (simp [*]; done)), H', ⟨by have := HK1.out; have := HJ5.out; omega⟩, ⟨by repeat (first | (with_reducible first | exact HB.out | apply below_alloc | apply pw_below_drewN | apply below_drew1 | refine below_set ?_ GE257.out) | exact HB.out)⟩⟩
                  · rw [if_neg c29] at H
                    exact absurd H (by simp)
                · rw [if_neg c28] at H
                  have c28b0 : ((rd_T25 l0 x4_1).f1) = false := by simpa using c28
                  clear c28
                  by_cases c31 : ((rd_T25 l0 x4_1).f0.f0) = 4
                  · rw [if_pos c31] at H
                    have c31b0 : (((rd_T25 l0 x4_1).f0.f0) == 4) = true := beq_iff_eq.mpr c31
                    have c31b1 : (((rd_T25 l0 x4_1).f0.f0) != 4) = false := bne_eq_false_iff_eq.mpr c31
                    clear c31
                    replace H := Option.bind_eq_some_iff.mp H
                    obtain ⟨t268, A320, H⟩ := H
                    replace H : (if 1 + t268.size ≤ 9223372036854775807 then (if ((⟨#[118]⟩ : ByteArray) ++ t268).size + 1 ≤ 9223372036854775807 then (if (((⟨#[118]⟩ : ByteArray) ++ t268) ++ (⟨#[58]⟩ : ByteArray)).size + ((rd_T25 l0 x4_1).f3).size ≤ 9223372036854775807 then (if x3_5.size + ((((⟨#[118]⟩ : ByteArray) ++ t268) ++ (⟨#[58]⟩ : ByteArray)) ++ ((rd_T25 l0 x4_1).f3)).size ≤ 9223372036854775807 then (colonnaderef02_Key.l0 kj5 l0 (x3_5 ++ ((((⟨#[118]⟩ : ByteArray) ++ t268) ++ (⟨#[58]⟩ : ByteArray)) ++ ((rd_T25 l0 x4_1).f3))) (wrap64 (x4_1 + 1))) else (none)) else (none)) else (none)) else (none)) = some r := H
                    have A32 := Aside0.mk A320
                    clear A320
                    by_cases c33 : 1 + t268.size ≤ 9223372036854775807
                    · rw [if_pos c33] at H
                      have c33b0 := eq_true c33
                      (try (have c33n := c33; simp [size_lit] at c33n))
                      (try (have c33m := eq_false (Nat.not_lt.2 c33); simp only [ByteArray.size_append, size_lit, List.length_cons, List.length_nil, Nat.reduceAdd, Nat.zero_add] at c33m))
                      have c33b1 : decide (1 + t268.size ≤ 9223372036854775807) = true := decide_eq_true c33
                      try have c33b2 : (9223372036854775807 < 1 + t268.size) = False := eq_false (Nat.not_lt.2 c33)
                      by_cases c34 : ((⟨#[118]⟩ : ByteArray) ++ t268).size + 1 ≤ 9223372036854775807
                      · rw [if_pos c34] at H
                        have c34b0 := eq_true c34
                        (try (have c34n := c34; simp [size_lit] at c34n))
                        (try (have c34m := eq_false (Nat.not_lt.2 c34); simp only [ByteArray.size_append, size_lit, List.length_cons, List.length_nil, Nat.reduceAdd, Nat.zero_add] at c34m))
                        have c34b1 : decide (((⟨#[118]⟩ : ByteArray) ++ t268).size + 1 ≤ 9223372036854775807) = true := decide_eq_true c34
                        try have c34b2 : (9223372036854775807 < ((⟨#[118]⟩ : ByteArray) ++ t268).size + 1) = False := eq_false (Nat.not_lt.2 c34)
                        by_cases c35 : (((⟨#[118]⟩ : ByteArray) ++ t268) ++ (⟨#[58]⟩ : ByteArray)).size + ((rd_T25 l0 x4_1).f3).size ≤ 9223372036854775807
                        · rw [if_pos c35] at H
                          have c35b0 := eq_true c35
                          (try (have c35n := c35; simp [size_lit] at c35n))
                          (try (have c35m := eq_false (Nat.not_lt.2 c35); simp only [ByteArray.size_append, size_lit, List.length_cons, List.length_nil, Nat.reduceAdd, Nat.zero_add] at c35m))
                          have c35b1 : decide ((((⟨#[118]⟩ : ByteArray) ++ t268) ++ (⟨#[58]⟩ : ByteArray)).size + ((rd_T25 l0 x4_1).f3).size ≤ 9223372036854775807) = true := decide_eq_true c35
                          try have c35b2 : (9223372036854775807 < (((⟨#[118]⟩ : ByteArray) ++ t268) ++ (⟨#[58]⟩ : ByteArray)).size + ((rd_T25 l0 x4_1).f3).size) = False := eq_false (Nat.not_lt.2 c35)
                          by_cases c36 : x3_5.size + ((((⟨#[118]⟩ : ByteArray) ++ t268) ++ (⟨#[58]⟩ : ByteArray)) ++ ((rd_T25 l0 x4_1).f3)).size ≤ 9223372036854775807
                          · rw [if_pos c36] at H
                            have c36b0 := eq_true c36
                            (try (have c36n := c36; simp [size_lit] at c36n))
                            (try (have c36m := eq_false (Nat.not_lt.2 c36); simp only [ByteArray.size_append, size_lit, List.length_cons, List.length_nil, Nat.reduceAdd, Nat.zero_add] at c36m))
                            have c36b1 : decide (x3_5.size + ((((⟨#[118]⟩ : ByteArray) ++ t268) ++ (⟨#[58]⟩ : ByteArray)) ++ ((rd_T25 l0 x4_1).f3)).size ≤ 9223372036854775807) = true := decide_eq_true c36
                            try have c36b2 : (9223372036854775807 < x3_5.size + ((((⟨#[118]⟩ : ByteArray) ++ t268) ++ (⟨#[58]⟩ : ByteArray)) ++ ((rd_T25 l0 x4_1).f3)).size) = False := eq_false (Nat.not_lt.2 c36)
                            have H' := Aside0.mk H
                            clear H
                            have hcz37_0 : wc.cell? ⟨gb257, 0, none⟩ = some (.int .i64 ((rd_T25 l0 x4_1).f0.f0)) := (blk_cell BK257.out 0).trans rfl
                            have hcz37_1 : wc.cell? ⟨gb257, 1, none⟩ = some (.int .i64 ((rd_T25 l0 x4_1).f0.f1)) := (blk_cell BK257.out 1).trans rfl
                            have hcz37_2 : wc.cell? ⟨gb257, 2, none⟩ = some (.bool ((rd_T25 l0 x4_1).f1)) := (blk_cell BK257.out 2).trans rfl
                            have hcz37_3 : wc.cell? ⟨gb257, 3, none⟩ = some (.int .i64 ((rd_T25 l0 x4_1).f2)) := (blk_cell BK257.out 3).trans rfl
                            have hcz37_4 : wc.cell? ⟨gb257, 4, none⟩ = some (.string ((rd_T25 l0 x4_1).f3)) := (blk_cell BK257.out 4).trans rfl
                            have hfz37_0 := blk_frozen BK257.out 0
                            have hfz37_1 := blk_frozen BK257.out 1
                            have hfz37_2 := blk_frozen BK257.out 2
                            have hfz37_3 := blk_frozen BK257.out 3
                            have hfz37_4 := blk_frozen BK257.out 4
                            try go_wp2
                            have n0_ := Aside0.mk (blk_drew BK257.out)
                            have n1_ := Aside0.mk (below_drew1 HB.out)
                            clear BK257
                            clear HB
                            have BK257 := n0_
                            have HB := n1_
                            clear n0_ n1_
                            refine start_ (n := 12) (S := fun w' => w'.cell? ⟨gb257, 0, none⟩ = some (.int .i64 ((rd_T25 l0 x4_1).f0.f0)) ∧ w'.cell? ⟨gb257, 1, none⟩ = some (.int .i64 ((rd_T25 l0 x4_1).f0.f1)) ∧ w'.cell? ⟨gb257, 2, none⟩ = some (.bool ((rd_T25 l0 x4_1).f1)) ∧ w'.cell? ⟨gb257, 3, none⟩ = some (.int .i64 ((rd_T25 l0 x4_1).f2)) ∧ w'.cell? ⟨gb257, 4, none⟩ = some (.string ((rd_T25 l0 x4_1).f3))) (ds := []) #[false, false, false, false, false, false, false, false, false, false, false, false] (by kernel_rfl) rfl rfl ⟨(blk_cell BK257.out 0).trans rfl, (blk_cell BK257.out 1).trans rfl, (blk_cell BK257.out 2).trans rfl, (blk_cell BK257.out 3).trans rfl, (blk_cell BK257.out 4).trans rfl⟩ (fun hHeld => ?_); refine with_tabW colonnaderef02_Key.tab17 colonnaderef02_Key.bits17 (fun HT_ HW_ => ?_)
                            generalize wc.drew = w38 at BK257 HB hHeld ⊢
                            refine pure_ (i := 0) (N := some 63) (v := ?_) (a' := ?_) #[true, false, false, false, false, false, false, false, false, false, false, false] rfl rfl (any_of HT_.out (by kernel_rfl)) (fun _ _ _ h => h) (Or.inl ⟨by rfl, ?_⟩) ?_ ?_
                            rotate_left
                            · intro w'
                              go_simp
                              with_reducible rfl
                            rotate_left
                            · simp only [Act.put, List.setIfInBounds_toArray, List.set_cons_zero, List.set_cons_succ, i64_w, i32_w]
                              rfl
                            refine pure_ (i := 1) (N := some 64) (v := ?_) (a' := ?_) #[true, true, false, false, false, false, false, false, false, false, false, false] rfl rfl (any_of HT_.out (by kernel_rfl)) (fun _ _ _ h => h) (Or.inl ⟨by rfl, ?_⟩) ?_ ?_
                            rotate_left
                            · intro w'
                              go_simp
                              with_reducible rfl
                            rotate_left
                            · simp only [Act.put, List.setIfInBounds_toArray, List.set_cons_zero, List.set_cons_succ, i64_w, i32_w]
                              rfl
                            refine pure_ (i := 7) (N := some 70) (v := ?_) (a' := ?_) #[true, true, false, false, false, false, false, true, false, false, false, false] rfl rfl (any_of HT_.out (by kernel_rfl)) (fun _ _ _ h => h) (Or.inl ⟨by rfl, ?_⟩) ?_ ?_
                            rotate_left
                            · intro w'
                              go_simp
                              with_reducible rfl
                            rotate_left
                            · simp only [Act.put, List.setIfInBounds_toArray, List.set_cons_zero, List.set_cons_succ, i64_w, i32_w]
                              rfl
                            refine take_ (i := 2) (N := some 65) (v := ?_) (a' := ?_) #[true, true, true, false, false, false, false, true, false, false, false, false] rfl rfl (take_ofW HT_.out HW_.out (by kernel_rfl)) (fun _ _ _ h => h) (Or.inl ⟨by rfl, ?_⟩) hHeld ?_ ?_
                            rotate_left
                            · rintro w' ⟨s0, s1, s2, s3, s4⟩
                              go_simp
                              with_reducible rfl
                            rotate_left
                            · simp only [Act.put, List.setIfInBounds_toArray, List.set_cons_zero, List.set_cons_succ, i64_w, i32_w]
                              rfl
                            refine pure_ (i := 3) (N := some 66) (v := ?_) (a' := ?_) #[true, true, true, true, false, false, false, true, false, false, false, false] rfl rfl (any_of HT_.out (by kernel_rfl)) (fun _ _ _ h => h) (Or.inl ⟨by rfl, ?_⟩) ?_ ?_
                            rotate_left
                            · intro w'
                              go_simp
                              with_reducible rfl
                            rotate_left
                            · simp only [Act.put, List.setIfInBounds_toArray, List.set_cons_zero, List.set_cons_succ, i64_w, i32_w]
                              rfl
                            refine take_ (i := 8) (N := some 71) (v := ?_) (a' := ?_) #[true, true, true, true, false, false, false, true, true, false, false, false] rfl rfl (take_ofW HT_.out HW_.out (by kernel_rfl)) (fun _ _ _ h => h) (Or.inl ⟨by rfl, ?_⟩) hHeld ?_ ?_
                            rotate_left
                            · rintro w' ⟨s0, s1, s2, s3, s4⟩
                              go_simp
                              with_reducible rfl
                            rotate_left
                            · simp only [Act.put, List.setIfInBounds_toArray, List.set_cons_zero, List.set_cons_succ, i64_w, i32_w]
                              rfl
                            refine one_ (i := 4) (N := some 67) #[true, true, true, true, true, false, false, true, true, false, false, false] rfl rfl (one_of HT_.out (by kernel_rfl)) (by decide) (fun K hK => ?_)
                            refine goes_ Tryd.func50 (by kernel_rfl) rfl #[.int .i64 (((rd_T25 l0 x4_1).f3).size : Int)] (by rfl) rfl rfl (by (try simp only [List.map_toArray, List.map_cons, List.map_nil]); first | done | rfl | (simp only [List.length_drop, List.length_take]; rfl)) ?_
                            with_reducible refine (colonnaderef01_FormatInt.calls kj5 (((rd_T25 l0 x4_1).f3).size : Int) t268 _ A32.out).mono ?_
                            rintro e w39 ⟨rfl, hb⟩
                            refine ⟨_, rfl, ?_⟩
                            have n0_ := Aside0.mk (blk_below (g := gb257) (o := .cells #[.int .i64 ((rd_T25 l0 x4_1).f0.f0), .int .i64 ((rd_T25 l0 x4_1).f0.f1), .bool ((rd_T25 l0 x4_1).f1), .int .i64 ((rd_T25 l0 x4_1).f2), .string ((rd_T25 l0 x4_1).f3)] 25 (0, 0)) (by (with_reducible repeat (first | refine blk_drewN ?_ _ | refine blk_drew ?_ | refine blk_alloc ?_ _)); exact BK257.out) hb)
                            have n1_ := Aside0.mk (below_step (by repeat (first | (with_reducible first | exact HB.out | apply below_alloc | apply pw_below_drewN | apply below_drew1 | refine below_set ?_ GE257.out) | exact HB.out)) hb)
                            clear BK257
                            clear HB
                            have BK257 := n0_
                            have HB := n1_
                            clear n0_ n1_
                            (try clear hb)
                            (try clear hb2)
                            (try clear hk)
                            (try clear hi)
                            refine hK.out _ _ ⟨(blk_cell BK257.out 0).trans rfl, (blk_cell BK257.out 1).trans rfl, (blk_cell BK257.out 2).trans rfl, (blk_cell BK257.out 3).trans rfl, (blk_cell BK257.out 4).trans rfl⟩ (fun hHeld => ?_)
                            clear hK K
                            refine norm_ (a' := ?_) ?_ ?_
                            rotate_left
                            · show Act.put _ (some 67) _ = _
                              simp only [Act.put, List.setIfInBounds_toArray, List.set_cons_zero, List.set_cons_succ, i64_w, i32_w]
                              rfl
                            refine pure_ (i := 5) (N := some 68) (v := ?_) (a' := ?_) #[true, true, true, true, true, true, false, true, true, false, false, false] rfl rfl (any_of HT_.out (by kernel_rfl)) (fun _ _ _ h => h) (Or.inl ⟨by rfl, ?_⟩) ?_ ?_
                            rotate_left
                            · intro w'
                              go_simp
                              with_reducible rfl
                            rotate_left
                            · simp only [Act.put, List.setIfInBounds_toArray, List.set_cons_zero, List.set_cons_succ, i64_w, i32_w]
                              rfl
                            refine pure_ (i := 6) (N := some 69) (v := ?_) (a' := ?_) #[true, true, true, true, true, true, true, true, true, false, false, false] rfl rfl (any_of HT_.out (by kernel_rfl)) (fun _ _ _ h => h) (Or.inl ⟨by rfl, ?_⟩) ?_ ?_
                            rotate_left
                            · intro w'
                              go_simp
                              with_reducible rfl
                            rotate_left
                            · simp only [Act.put, List.setIfInBounds_toArray, List.set_cons_zero, List.set_cons_succ, i64_w, i32_w]
                              rfl
                            refine pure_ (i := 9) (N := some 72) (v := ?_) (a' := ?_) #[true, true, true, true, true, true, true, true, true, true, false, false] rfl rfl (any_of HT_.out (by kernel_rfl)) (fun _ _ _ h => h) (Or.inl ⟨by rfl, ?_⟩) ?_ ?_
                            rotate_left
                            · intro w'
                              go_simp
                              with_reducible rfl
                            rotate_left
                            · simp only [Act.put, List.setIfInBounds_toArray, List.set_cons_zero, List.set_cons_succ, i64_w, i32_w]
                              rfl
                            refine pure_ (i := 10) (N := some 73) (v := ?_) (a' := ?_) #[true, true, true, true, true, true, true, true, true, true, true, false] rfl rfl (any_of HT_.out (by kernel_rfl)) (fun _ _ _ h => h) (Or.inl ⟨by rfl, ?_⟩) ?_ ?_
                            rotate_left
                            · intro w'
                              go_simp
                              with_reducible rfl
                            rotate_left
                            · simp only [Act.put, List.setIfInBounds_toArray, List.set_cons_zero, List.set_cons_succ, i64_w, i32_w]
                              rfl
                            refine pure_ (i := 11) (N := some 3) (v := ?_) (a' := ?_) #[true, true, true, true, true, true, true, true, true, true, true, true] rfl rfl (any_of HT_.out (by kernel_rfl)) (fun _ _ _ h => h) (Or.inl ⟨by rfl, ?_⟩) ?_ ?_
                            rotate_left
                            · intro w'
                              go_simp
                              with_reducible rfl
                            rotate_left
                            · simp only [Act.put, List.setIfInBounds_toArray, List.set_cons_zero, List.set_cons_succ, i64_w, i32_w]
                              rfl
                            refine done_ (done_of HT_.out (by kernel_rfl)) ?_
                            try go_wp2
                            go_roundg kj5
                            case measure => have := HK1.out; have := HJ5.out; omega
                            case rel => exact ⟨(x3_5 ++ ((((⟨#[118]⟩ : ByteArray) ++ t268) ++ (⟨#[58]⟩ : ByteArray)) ++ ((rd_T25 l0 x4_1).f3))), (wrap64 (x4_1 + 1)), (by first | rfl | (simp; done) | (simp [*]; done)), (by first | rfl | (simp; done) | (simp [*]; done)), H', ⟨by have := HK1.out; have := HJ5.out; omega⟩, ⟨by repeat (first | (with_reducible first | exact HB.out | apply below_alloc | apply pw_below_drewN | apply below_drew1 | refine below_set ?_ GE257.out) | exact HB.out)⟩⟩
                          · rw [if_neg c36] at H
                            exact absurd H (by simp)
                        · rw [if_neg c35] at H
                          exact absurd H (by simp)
                      · rw [if_neg c34] at H
                        exact absurd H (by simp)
                    · rw [if_neg c33] at H
                      exact absurd H (by simp)
                  · rw [if_neg c31] at H
                    have c31b0 : (((rd_T25 l0 x4_1).f0.f0) == 4) = false := beq_eq_false_iff_ne.mpr c31
                    have c31b1 : (((rd_T25 l0 x4_1).f0.f0) != 4) = true := bne_iff_ne.mpr c31
                    replace H := Option.bind_eq_some_iff.mp H
                    obtain ⟨t269, A400, H⟩ := H
                    replace H : (if 1 + t269.size ≤ 9223372036854775807 then (if ((⟨#[118]⟩ : ByteArray) ++ t269).size + 1 ≤ 9223372036854775807 then (if x3_5.size + (((⟨#[118]⟩ : ByteArray) ++ t269) ++ (⟨#[59]⟩ : ByteArray)).size ≤ 9223372036854775807 then (colonnaderef02_Key.l0 kj5 l0 (x3_5 ++ (((⟨#[118]⟩ : ByteArray) ++ t269) ++ (⟨#[59]⟩ : ByteArray))) (wrap64 (x4_1 + 1))) else (none)) else (none)) else (none)) = some r := H
                    have A40 := Aside0.mk A400
                    clear A400
                    by_cases c41 : 1 + t269.size ≤ 9223372036854775807
                    · rw [if_pos c41] at H
                      have c41b0 := eq_true c41
                      (try (have c41n := c41; simp [size_lit] at c41n))
                      (try (have c41m := eq_false (Nat.not_lt.2 c41); simp only [ByteArray.size_append, size_lit, List.length_cons, List.length_nil, Nat.reduceAdd, Nat.zero_add] at c41m))
                      have c41b1 : decide (1 + t269.size ≤ 9223372036854775807) = true := decide_eq_true c41
                      try have c41b2 : (9223372036854775807 < 1 + t269.size) = False := eq_false (Nat.not_lt.2 c41)
                      by_cases c42 : ((⟨#[118]⟩ : ByteArray) ++ t269).size + 1 ≤ 9223372036854775807
                      · rw [if_pos c42] at H
                        have c42b0 := eq_true c42
                        (try (have c42n := c42; simp [size_lit] at c42n))
                        (try (have c42m := eq_false (Nat.not_lt.2 c42); simp only [ByteArray.size_append, size_lit, List.length_cons, List.length_nil, Nat.reduceAdd, Nat.zero_add] at c42m))
                        have c42b1 : decide (((⟨#[118]⟩ : ByteArray) ++ t269).size + 1 ≤ 9223372036854775807) = true := decide_eq_true c42
                        try have c42b2 : (9223372036854775807 < ((⟨#[118]⟩ : ByteArray) ++ t269).size + 1) = False := eq_false (Nat.not_lt.2 c42)
                        by_cases c43 : x3_5.size + (((⟨#[118]⟩ : ByteArray) ++ t269) ++ (⟨#[59]⟩ : ByteArray)).size ≤ 9223372036854775807
                        · rw [if_pos c43] at H
                          have c43b0 := eq_true c43
                          (try (have c43n := c43; simp [size_lit] at c43n))
                          (try (have c43m := eq_false (Nat.not_lt.2 c43); simp only [ByteArray.size_append, size_lit, List.length_cons, List.length_nil, Nat.reduceAdd, Nat.zero_add] at c43m))
                          have c43b1 : decide (x3_5.size + (((⟨#[118]⟩ : ByteArray) ++ t269) ++ (⟨#[59]⟩ : ByteArray)).size ≤ 9223372036854775807) = true := decide_eq_true c43
                          try have c43b2 : (9223372036854775807 < x3_5.size + (((⟨#[118]⟩ : ByteArray) ++ t269) ++ (⟨#[59]⟩ : ByteArray)).size) = False := eq_false (Nat.not_lt.2 c43)
                          have H' := Aside0.mk H
                          clear H
                          have hcz44_0 : wc.cell? ⟨gb257, 0, none⟩ = some (.int .i64 ((rd_T25 l0 x4_1).f0.f0)) := (blk_cell BK257.out 0).trans rfl
                          have hcz44_1 : wc.cell? ⟨gb257, 1, none⟩ = some (.int .i64 ((rd_T25 l0 x4_1).f0.f1)) := (blk_cell BK257.out 1).trans rfl
                          have hcz44_2 : wc.cell? ⟨gb257, 2, none⟩ = some (.bool ((rd_T25 l0 x4_1).f1)) := (blk_cell BK257.out 2).trans rfl
                          have hcz44_3 : wc.cell? ⟨gb257, 3, none⟩ = some (.int .i64 ((rd_T25 l0 x4_1).f2)) := (blk_cell BK257.out 3).trans rfl
                          have hcz44_4 : wc.cell? ⟨gb257, 4, none⟩ = some (.string ((rd_T25 l0 x4_1).f3)) := (blk_cell BK257.out 4).trans rfl
                          have hfz44_0 := blk_frozen BK257.out 0
                          have hfz44_1 := blk_frozen BK257.out 1
                          have hfz44_2 := blk_frozen BK257.out 2
                          have hfz44_3 := blk_frozen BK257.out 3
                          have hfz44_4 := blk_frozen BK257.out 4
                          go_wp2_with (first | ((with_reducible refine gate_callee (f := 50) rfl ?_); refine goesL_ (some 51) rfl rfl Tryd.func50 (by kernel_rfl) rfl #[.int .i64 ((rd_T25 l0 x4_1).f2)] rfl (by (try simp only [List.map_toArray, List.map_cons, List.map_nil]); first | done | rfl | (simp only [List.length_drop, List.length_take]; rfl)) ?_; (with_reducible refine (colonnaderef01_FormatInt.calls kj5 ((rd_T25 l0 x4_1).f2) t269 _ A40.out).mono ?_); rintro e w45 ⟨rfl, hb⟩; refine ⟨_, rfl, ?_⟩; have n0_ := Aside0.mk (blk_below (g := gb257) (o := .cells #[.int .i64 ((rd_T25 l0 x4_1).f0.f0), .int .i64 ((rd_T25 l0 x4_1).f0.f1), .bool ((rd_T25 l0 x4_1).f1), .int .i64 ((rd_T25 l0 x4_1).f2), .string ((rd_T25 l0 x4_1).f3)] 25 (0, 0)) (by (with_reducible repeat (first | refine blk_drewN ?_ _ | refine blk_drew ?_ | refine blk_alloc ?_ _)); exact BK257.out) hb); have n1_ := Aside0.mk (below_step (by repeat (first | (with_reducible first | exact HB.out | apply below_alloc | apply pw_below_drewN | apply below_drew1 | refine below_set ?_ GE257.out) | exact HB.out)) hb); clear BK257; clear HB; have BK257 := n0_; have HB := n1_; clear n0_ n1_; (try clear hb); (try clear hb2); (try clear hk); (try clear hi)))
                          go_roundg kj5
                          case measure => have := HK1.out; have := HJ5.out; omega
                          case rel => exact ⟨(x3_5 ++ (((⟨#[118]⟩ : ByteArray) ++ t269) ++ (⟨#[59]⟩ : ByteArray))), (wrap64 (x4_1 + 1)), (by first | rfl | (simp; done) | (simp [*]; done)), (by first | rfl | (simp; done) | (simp [*]; done)), H', ⟨by have := HK1.out; have := HJ5.out; omega⟩, ⟨by repeat (first | (with_reducible first | exact HB.out | apply below_alloc | apply pw_below_drewN | apply below_drew1 | refine below_set ?_ GE257.out) | exact HB.out)⟩⟩
                        · rw [if_neg c43] at H
                          exact absurd H (by simp)
                      · rw [if_neg c42] at H
                        exact absurd H (by simp)
                    · rw [if_neg c41] at H
                      exact absurd H (by simp)
          · rw [if_neg c5] at H
            exact absurd H (by simp)
        · rw [if_neg c3] at H
          exact absurd H (by simp)
      · rw [if_neg c2] at H
        have c2b0 : decide (x4_1 < (l0.length : Int)) = false := decide_eq_false c2
        clear c2
        obtain rfl := Option.some.inj H
        go_wp2
        go_ret
        exact ⟨by first | rfl | (simp [errW_none, errW_some] <;> rfl) | (simp [*, errW_none, errW_some] <;> rfl), by repeat (first | (with_reducible first | exact HB.out | apply below_alloc | apply pw_below_drewN | apply below_drew1) | exact HB.out)⟩

/-! ### value_Hash: function 16, by hand -/
/-- one byte more -/
def value_Hash.step (h : Int) (c : UInt8) : Int := IntKind.u64.wrap (Go.bits .xor .u64 h (c.toNat : Int) * 1099511628211)
def value_Hash.f (a0 : Int) (l1 : List S25) : Option Int := (value_Key.f l1).bind fun s => if s.size ≤ 140737488355328 then some (s.data.toList.foldl value_Hash.step (Go.bits .xor .u64 14695981039346656037 a0)) else none
/-- the bytes, laid -/
structure value_Hash.At (w : World) (s : ByteArray) (wr : World) : Prop where
  below : Below w.heap.size w wr
  cells : ∀ j, j < s.size → wr.cell? ⟨w.heap.size, j, none⟩ = some (.int .u8 ((s.data.toList.getD j 0).toNat : Int))
theorem value_Hash.start (w : World) (s : ByteArray) (e : TypeId) : value_Hash.At w s (Lib.bytesWorld w e s) where
  below := ⟨rfl, rfl, rfl, by rw [Lib.bytesWorld_size]; omega, fun k hk => Lib.bytesWorld_at_old w e s k hk⟩
  cells := fun j hj => Lib.bytesWorld_cell w e s j hj
theorem value_Hash.succ (s : ByteArray) (j : Nat) (h : j < s.size) (z : Int) : (s.data.toList.take (j + 1)).foldl value_Hash.step z = value_Hash.step ((s.data.toList.take j).foldl value_Hash.step z) (s.data.toList.getD j 0) := by
  have hl : j < s.data.toList.length := by rw [Array.length_toList]; exact h
  rw [List.take_succ_eq_append_getElem hl, List.foldl_append, List.getD_eq_getElem?_getD, List.getElem?_eq_getElem hl]
  rfl
set_option maxHeartbeats 8000000 in
set_option maxRecDepth 100000 in
theorem value_Hash.calls (a0 : Int) (A1 : Option Addr) (c1 : Nat) (l1 : List S25) (r : Int) (w : World) (hr1 : Kd.C k25 w A1 l1.length l1) (hc1 : l1.length ≤ c1) (h : value_Hash.f a0 l1 = some r) (hG : Gl w) :
    Calls Tryd.prog 16 #[.int .u64 a0, .slice A1 l1.length c1] w fun e w' => e = .returned (.int .u64 r) ∧ Below w.heap.size w w' := by
  unfold value_Hash.f at h
  obtain ⟨s, hK, h⟩ := Option.bind_eq_some_iff.mp h
  by_cases hs : s.size ≤ 140737488355328
  · rw [if_pos hs] at h
    have HR := Aside0.mk (Option.some.inj h)
    have HK := Aside0.mk hK
    have HG := Aside0.mk hG
    have HC := Aside0.mk hr1
    clear h hK hG hr1
    have hcv := fun W : World => Lib.run_convert_string_bytes (P := Tryd.prog) W 9 61 5 s Tryd.underlying9 Tryd.underlying61 Tryd.underlying5
    obtain ⟨z, hz⟩ : ∃ z, Go.bits .xor .u64 14695981039346656037 a0 = z := ⟨_, rfl⟩
    go_enter Tryd.func16, Tryd.ntmps16
    go_wp2_with (go_at_call 14; (with_reducible refine (value_Key.calls A1 c1 l1 s _ HC.out hc1 HK.out HG.out).mono ?_); rintro e w1 ⟨rfl, hb⟩; have HB := Aside0.mk hb; clear hb; have HS0 := Aside0.mk (value_Hash.start w1 s 5))
    go_loopg [5, 14] s.size (fun kq v5 v14 wr => ∃ (j : Nat), v14 = .int .i64 (j : Int) ∧ v5 = .int .u64 ((s.data.toList.take j).foldl value_Hash.step z) ∧ Aside0 (j + kq = s.size) ∧ Aside0 (value_Hash.At w1 s wr))
    case atStart => exact ⟨0, rfl, by first | rfl | simp [hz], ⟨by omega⟩, HS0⟩
    case round =>
      clear HS0 hcv
      obtain ⟨j, rfl, rfl, HJ, HS⟩ := hrel
      cases gk with
      | zero =>
        have hj : j = s.size := by have := HJ.out; omega
        subst hj
        have c1 : decide ((s.size : Int) < (s.size : Int)) = false := decide_eq_false (by omega)
        go_wp2
        go_ret
        refine ⟨?_, HB.out.trans (HS.out.below.mono HB.out.size)⟩
        first | (rw [← HR.out, hz]; rfl) | (rw [← HR.out, List.take_of_length_le (by rw [Array.length_toList]; exact Nat.le_refl _), hz]; rfl)
      | succ k1 =>
        have hlt : j < s.size := by have := HJ.out; omega
        have c1 : decide ((j : Int) < (s.size : Int)) = true := decide_eq_true (by omega)
        have hc := HS.out.cells j hlt
        have HT := Aside0.mk (value_Hash.succ s j hlt z)
        obtain ⟨c, hcc⟩ : ∃ c, c = s.data.toList.getD j 0 := ⟨_, rfl⟩
        rw [← hcc] at hc HT
        clear hcc hz
        obtain ⟨v, hv⟩ : ∃ v : Int, v = (c.toNat : Int) := ⟨_, rfl⟩
        rw [← hv] at hc
        have v0 : 0 ≤ v := by omega
        have v1 : v ≤ 255 := by have := UInt8.toNat_lt c; omega
        have HV := Aside0.mk hv
        clear hv
        obtain ⟨y, hy⟩ : ∃ y, (s.data.toList.take j).foldl value_Hash.step z = y := ⟨_, rfl⟩
        rw [hy] at HT ⊢
        clear hy
        go_wp2
        go_roundg k1
        case measure => have := HJ.out; omega
        case rel => exact ⟨j + 1, (by first | rfl | (simp; done)), (by rw [HT.out]; unfold value_Hash.step; rw [HV.out]), ⟨by have := HJ.out; omega⟩, HS⟩
  · rw [if_neg hs] at h; exact absurd h (by simp)


/-! ### colonnaderef02_Hash: function 17 -/
def colonnaderef02_Hash.l0 : Nat → Int → ByteArray → Int → Option (Int)
  | 0, _, _, _ => none
  | k + 1, x5, x6, x7 => if x7 < (x6.size : Int) then (if 0 ≤ x7 then (colonnaderef02_Hash.l0 k (IntKind.u64.wrap ((Go.bits .xor .u64 x5 (IntKind.u64.wrap (bt x6 x7))) * 1099511628211)) x6 (wrap64 (x7 + 1))) else (none)) else (some x5)
def colonnaderef02_Hash.f (k : Nat) (a0 : Int) (l1 : List (S25)) : Option (Int) := (colonnaderef02_Key.f k l1).bind fun t270 => (colonnaderef02_Hash.l0 k (Go.bits .xor .u64 14695981039346656037 a0) t270 0)
theorem colonnaderef02_Hash.mono_l : ∀ k, (∀ y0 y1 y2, LeO (colonnaderef02_Hash.l0 k y0 y1 y2) (colonnaderef02_Hash.l0 (k + 1) y0 y1 y2))
  | 0 => fun _ _ _ r h => by simp [colonnaderef02_Hash.l0] at h
  | k + 1 => by
    have ih0 := colonnaderef02_Hash.mono_l k
    · intro y0 y1 y2
      unfold colonnaderef02_Hash.l0
      repeat' first
      | (with_reducible exact ih0 _ _ _)
      | (with_reducible exact colonnaderef02_Key.mono _ _)
      | (with_reducible exact LeO.refl _)
      | (with_reducible exact LeO.none _)
      | (with_reducible refine LeO.ite ?_ ?_)
      | (with_reducible refine LeO.bind ?_ (fun _ => ?_))
      | exact ih0 _ _ _
      | exact colonnaderef02_Key.mono _ _
      | exact LeO.none _
      | refine LeO.ite ?_ ?_
      | refine LeO.bind ?_ (fun _ => ?_)
theorem colonnaderef02_Hash.mono : ∀ a0 a1 k, LeO (colonnaderef02_Hash.f k a0 a1) (colonnaderef02_Hash.f (k + 1) a0 a1) := by
  intro a0 a1 k
  have ih0 := colonnaderef02_Hash.mono_l k
  unfold colonnaderef02_Hash.f
  repeat' first
      | (with_reducible exact ih0 _ _ _)
      | (with_reducible exact colonnaderef02_Key.mono _ _)
      | (with_reducible exact LeO.refl _)
      | (with_reducible exact LeO.none _)
      | (with_reducible refine LeO.ite ?_ ?_)
      | (with_reducible refine LeO.bind ?_ (fun _ => ?_))
      | exact ih0 _ _ _
      | exact colonnaderef02_Key.mono _ _
      | exact LeO.none _
      | refine LeO.ite ?_ ?_
      | refine LeO.bind ?_ (fun _ => ?_)
set_option maxHeartbeats 8000000 in
set_option maxRecDepth 100000 in
theorem colonnaderef02_Hash.calls (k : Nat) (a0 : Int) (A1 : Option Addr) (c1 : Nat) (l1 : List (S25)) (r : Int) (w : World) (hr1 : Kd.C k25 w A1 l1.length l1) (hc1 : l1.length ≤ c1) (h : colonnaderef02_Hash.f k a0 l1 = some r) :
    Calls Tryd.prog 17 #[.int .u64 a0, .slice A1 l1.length c1] w fun e w' => e = .returned (.int .u64 r) ∧ Below w.heap.size w w' := by
  have HR1 := Aside0.mk hr1
  have HC1 := Aside0.mk hc1
  clear hr1 hc1
  have HB := Aside0.mk (Below.refl w.heap.size w)
  have H : ((colonnaderef02_Key.f k l1).bind fun t270 => (colonnaderef02_Hash.l0 k (Go.bits .xor .u64 14695981039346656037 a0) t270 0)) = some r := h
  clear h
  replace H := Option.bind_eq_some_iff.mp H
  obtain ⟨t270, A30, H⟩ := H
  replace H : (colonnaderef02_Hash.l0 k (Go.bits .xor .u64 14695981039346656037 a0) t270 0) = some r := H
  have A3 := Aside0.mk A30
  clear A30
  have H' := Aside0.mk H
  clear H
  go_enter Tryd.func17, Tryd.ntmps17
  go_wp2_with (first | ((with_reducible refine gate_callee (f := 15) rfl ?_); refine goesL_ (some 11) rfl rfl Tryd.func15 (by kernel_rfl) rfl #[.slice A1 l1.length c1] rfl (by (try simp only [List.map_toArray, List.map_cons, List.map_nil]); first | done | rfl | (simp only [List.length_drop, List.length_take]; rfl)) ?_; (with_reducible refine (colonnaderef02_Key.calls k _ _ l1 t270 _ ?side1 ?side2 A3.out).mono ?_); (case side1 => repeat (first | exact HR1.out | (with_reducible refine Kd.C_alloc ?_ _) | (with_reducible refine Kd.C_drewN ?_ _) | (with_reducible refine Kd.C_drew ?_))); (case side2 => exact HC1.out); rintro e w4 ⟨rfl, hb⟩; refine ⟨_, rfl, ?_⟩; have n0_ := Aside0.mk (below_step (by repeat (first | (with_reducible first | exact HB.out | apply below_alloc | apply pw_below_drewN | apply below_drew1) | exact HB.out)) hb); clear HB; have HB := n0_; clear n0_; (try clear hb); (try clear hb2); (try clear hk); (try clear hi)))
  go_loopg [5, 7] k (fun kq v5 v7 w' => ∃ (x5_1 : Int) (x7_1 : Int), v5 = .int .u64 x5_1 ∧ v7 = .int .i64 x7_1 ∧ Aside0 (colonnaderef02_Hash.l0 kq x5_1 t270 x7_1 = some r) ∧ Aside0 (kq ≤ k) ∧ Aside0 (Below w.heap.size w w'))
  case atStart => exact ⟨(Go.bits .xor .u64 14695981039346656037 a0), (0), (by first | rfl | (simp; done) | (simp [*]; done)), (by first | rfl | (simp; done) | (simp [*]; done)), H', ⟨Nat.le_refl _⟩, ⟨by repeat (first | (with_reducible first | exact HB.out | apply below_alloc | apply pw_below_drewN | apply below_drew1) | exact HB.out)⟩⟩
  case round =>
    clear H'
    try clear c1
    try clear p2
    obtain ⟨x5_1, x7_1, rfl, rfl, HA, HK1, HB⟩ := hrel
    cases gk with
    | zero => exact absurd HA.out (by simp [colonnaderef02_Hash.l0])
    | succ k1 =>
      have H := HA.out
      clear HA
      simp only [colonnaderef02_Hash.l0] at H
      by_cases c5 : x7_1 < (t270.size : Int)
      · rw [if_pos c5] at H
        have c5b0 : decide (x7_1 < (t270.size : Int)) = true := decide_eq_true c5
        clear c5
        by_cases c6 : 0 ≤ x7_1
        · rw [if_pos c6] at H
          have c6b0 : decide (0 ≤ x7_1) = true := decide_eq_true c6
          clear c6
          have H' := Aside0.mk H
          clear H
          have p7 : 0 ≤ (x7_1 : Int) := of_decide_eq_true (by first | (with_reducible assumption) | assumption)
          have q7 : x7_1 < (t270.size : Int) := of_decide_eq_true (by first | (with_reducible assumption) | assumption)
          have hx7 := bt_at t270 x7_1
          replace p7 := eq_true p7
          replace q7 := eq_true q7
          go_wp2
          go_roundg k1
          case measure => have := HK1.out; omega
          case rel => exact ⟨(IntKind.u64.wrap ((Go.bits .xor .u64 x5_1 (IntKind.u64.wrap (bt t270 x7_1))) * 1099511628211)), (wrap64 (x7_1 + 1)), (by first | rfl | (simp; done) | (simp [*]; done)), (by first | rfl | (simp; done) | (simp [*]; done)), H', ⟨by have := HK1.out; omega⟩, ⟨by repeat (first | (with_reducible first | exact HB.out | apply below_alloc | apply pw_below_drewN | apply below_drew1) | exact HB.out)⟩⟩
        · rw [if_neg c6] at H
          exact absurd H (by simp)
      · rw [if_neg c5] at H
        have c5b0 : decide (x7_1 < (t270.size : Int)) = false := decide_eq_false c5
        clear c5
        obtain rfl := Option.some.inj H
        go_wp2
        go_ret
        exact ⟨by first | rfl | (simp [errW_none, errW_some] <;> rfl) | (simp [*, errW_none, errW_some] <;> rfl), by repeat (first | (with_reducible first | exact HB.out | apply below_alloc | apply pw_below_drewN | apply below_drew1) | exact HB.out)⟩

/-! ### colonnadelaw02_ValueShows: function 4 -/
def colonnadelaw02_ValueShows.l0 : Nat → Int → List (S25) → List (S25) → Int → Int → Option (Bool)
  | 0, _, _, _, _, _ => none
  | k + 1, x0, x1, x7, x8, x9 => if x9 < x8 then (if 0 ≤ x9 then (if x9 < (x7.length : Int) then ((value_Show.f k ((rd_T25 x7 x9).f0.f0) ((rd_T25 x7 x9).f0.f1) ((rd_T25 x7 x9).f1) ((rd_T25 x7 x9).f2) ((rd_T25 x7 x9).f3)).bind fun t273 => ((colonnaderef02_Show.f k ((rd_T25 x7 x9).f0.f0) ((rd_T25 x7 x9).f0.f1) ((rd_T25 x7 x9).f1) ((rd_T25 x7 x9).f2) ((rd_T25 x7 x9).f3)).bind fun t274 => (if t273.toList = t274.toList then (colonnadelaw02_ValueShows.l0 k x0 x1 x7 x8 (wrap64 (x9 + 1))) else (none)))) else (none)) else (none)) else ((colonnadelaw02_begun.f k).bind fun t275 => (if t275 = true then ((value_Key.f x1).bind fun t276 => ((colonnaderef02_Key.f k x1).bind fun t277 => (if t276.toList = t277.toList then ((value_Hash.f x0 x1).bind fun t278 => ((colonnaderef02_Hash.f k x0 x1).bind fun t279 => (some (t278 == t279)))) else (none)))) else (none)))
def colonnadelaw02_ValueShows.f (k : Nat) (a0 : Int) (l1 : List (S25)) : Option (Bool) := colonnadelaw02_ValueShows.l0 k a0 l1 l1 (l1.length : Int) 0
theorem colonnadelaw02_ValueShows.mono_l : ∀ k, (∀ y0 y1 y2 y3 y4, LeO (colonnadelaw02_ValueShows.l0 k y0 y1 y2 y3 y4) (colonnadelaw02_ValueShows.l0 (k + 1) y0 y1 y2 y3 y4))
  | 0 => fun _ _ _ _ _ r h => by simp [colonnadelaw02_ValueShows.l0] at h
  | k + 1 => by
    have ih0 := colonnadelaw02_ValueShows.mono_l k
    · intro y0 y1 y2 y3 y4
      unfold colonnadelaw02_ValueShows.l0
      repeat' first
      | (with_reducible exact ih0 _ _ _ _ _)
      | (with_reducible exact colonnadelaw02_begun.mono _)
      | (with_reducible exact colonnaderef02_Hash.mono _ _ _)
      | (with_reducible exact colonnaderef02_Key.mono _ _)
      | (with_reducible exact colonnaderef02_Show.mono _ _ _ _ _ _)
      | (with_reducible exact value_Show.mono _ _ _ _ _ _)
      | (with_reducible exact LeO.refl _)
      | (with_reducible exact LeO.none _)
      | (with_reducible refine LeO.ite ?_ ?_)
      | (with_reducible refine LeO.bind ?_ (fun _ => ?_))
      | exact ih0 _ _ _ _ _
      | exact colonnadelaw02_begun.mono _
      | exact colonnaderef02_Hash.mono _ _ _
      | exact colonnaderef02_Key.mono _ _
      | exact colonnaderef02_Show.mono _ _ _ _ _ _
      | exact value_Show.mono _ _ _ _ _ _
      | exact LeO.none _
      | refine LeO.ite ?_ ?_
      | refine LeO.bind ?_ (fun _ => ?_)
theorem colonnadelaw02_ValueShows.mono : ∀ a0 a1 k, LeO (colonnadelaw02_ValueShows.f k a0 a1) (colonnadelaw02_ValueShows.f (k + 1) a0 a1) := by
  intro a0 a1 k
  have ih0 := colonnadelaw02_ValueShows.mono_l k
  unfold colonnadelaw02_ValueShows.f
  repeat' first
      | (with_reducible exact ih0 _ _ _ _ _)
      | (with_reducible exact colonnadelaw02_begun.mono _)
      | (with_reducible exact colonnaderef02_Hash.mono _ _ _)
      | (with_reducible exact colonnaderef02_Key.mono _ _)
      | (with_reducible exact colonnaderef02_Show.mono _ _ _ _ _ _)
      | (with_reducible exact value_Show.mono _ _ _ _ _ _)
      | (with_reducible exact LeO.refl _)
      | (with_reducible exact LeO.none _)
      | (with_reducible refine LeO.ite ?_ ?_)
      | (with_reducible refine LeO.bind ?_ (fun _ => ?_))
      | exact ih0 _ _ _ _ _
      | exact colonnadelaw02_begun.mono _
      | exact colonnaderef02_Hash.mono _ _ _
      | exact colonnaderef02_Key.mono _ _
      | exact colonnaderef02_Show.mono _ _ _ _ _ _
      | exact value_Show.mono _ _ _ _ _ _
      | exact LeO.none _
      | refine LeO.ite ?_ ?_
      | refine LeO.bind ?_ (fun _ => ?_)
set_option maxHeartbeats 8000000 in
set_option maxRecDepth 100000 in
theorem colonnadelaw02_ValueShows.calls (k : Nat) (a0 : Int) (A1 : Option Addr) (c1 : Nat) (l1 : List (S25)) (r : Bool) (w : World) (hr1 : Kd.C k25 w A1 l1.length l1) (hc1 : l1.length ≤ c1) (h : colonnadelaw02_ValueShows.f k a0 l1 = some r) (hG : Gl w) :
    Calls Tryd.prog 4 #[.int .u64 a0, .slice A1 l1.length c1] w fun e w' => e = .returned (.bool r) ∧ Below w.heap.size w w' := by
  have HG := Aside0.mk hG
  clear hG
  have hu25 := Tryd.underlying25
  have HR1 := Aside0.mk hr1
  have HC1 := Aside0.mk hc1
  clear hr1 hc1
  have HB := Aside0.mk (Below.refl w.heap.size w)
  have H : (colonnadelaw02_ValueShows.l0 k a0 l1 l1 (l1.length : Int) 0) = some r := h
  clear h
  have H' := Aside0.mk H
  clear H
  go_enter Tryd.func4, Tryd.ntmps4
  go_wp2
  go_loopg [9] k (fun kq v9 w' => ∃ (x9_1 : Int), v9 = .int .i64 x9_1 ∧ Aside0 (colonnadelaw02_ValueShows.l0 kq a0 l1 l1 (l1.length : Int) x9_1 = some r) ∧ Aside0 (kq ≤ k) ∧ Aside0 (Below w.heap.size w w'))
  case atStart => exact ⟨(0), (by first | rfl | (simp; done) | (simp [*]; done)), H', ⟨Nat.le_refl _⟩, ⟨by repeat (first | (with_reducible first | exact HB.out | apply below_alloc | apply pw_below_drewN | apply below_drew1) | exact HB.out)⟩⟩
  case round =>
    clear H'
    try clear c1
    try clear p2
    obtain ⟨x9_1, rfl, HA, HK1, HB⟩ := hrel
    cases gk with
    | zero => exact absurd HA.out (by simp [colonnadelaw02_ValueShows.l0])
    | succ k1 =>
      have H := HA.out
      clear HA
      simp only [colonnadelaw02_ValueShows.l0] at H
      by_cases c3 : x9_1 < (l1.length : Int)
      · rw [if_pos c3] at H
        have c3b0 : decide (x9_1 < (l1.length : Int)) = true := decide_eq_true c3
        clear c3
        by_cases c4 : 0 ≤ x9_1
        · rw [if_pos c4] at H
          have c4b0 : decide (0 ≤ x9_1) = true := decide_eq_true c4
          clear c4
          by_cases c5 : x9_1 < (l1.length : Int)
          · rw [if_pos c5] at H
            have c5b0 : decide (x9_1 < (l1.length : Int)) = true := decide_eq_true c5
            clear c5
            replace H := Option.bind_eq_some_iff.mp H
            obtain ⟨t273, A60, H⟩ := H
            replace H : ((colonnaderef02_Show.f k1 ((rd_T25 l1 x9_1).f0.f0) ((rd_T25 l1 x9_1).f0.f1) ((rd_T25 l1 x9_1).f1) ((rd_T25 l1 x9_1).f2) ((rd_T25 l1 x9_1).f3)).bind fun t274 => (if t273.toList = t274.toList then (colonnadelaw02_ValueShows.l0 k1 a0 l1 l1 (l1.length : Int) (wrap64 (x9_1 + 1))) else (none))) = some r := H
            have A6 := Aside0.mk A60
            clear A60
            replace H := Option.bind_eq_some_iff.mp H
            obtain ⟨t274, A70, H⟩ := H
            replace H : (if t273.toList = t274.toList then (colonnadelaw02_ValueShows.l0 k1 a0 l1 l1 (l1.length : Int) (wrap64 (x9_1 + 1))) else (none)) = some r := H
            have A7 := Aside0.mk A70
            clear A70
            by_cases c8 : t273.toList = t274.toList
            · rw [if_pos c8] at H
              have c8b0 : (t273.toList == t274.toList) = true := beq_iff_eq.mpr c8
              have c8b1 : (t273.toList != t274.toList) = false := bne_eq_false_iff_eq.mpr c8
              clear c8
              have H' := Aside0.mk H
              clear H
              have p271 : 0 ≤ (x9_1 : Int) := of_decide_eq_true (by first | (with_reducible assumption) | assumption)
              have q271 : x9_1 < (l1.length : Int) := of_decide_eq_true (by first | (with_reducible assumption) | assumption)
              obtain ⟨ad271, e271, hx271_0, hx271_1, hx271_2, hx271_3, hx271_4⟩ := at_T25 HR1.out x9_1 p271 q271
              cases e271
              replace hx271_0 := (HB.out.cell (World.block_lt_of_cell? w _ hx271_0)).trans hx271_0
              replace hx271_1 := (HB.out.cell (World.block_lt_of_cell? w _ hx271_1)).trans hx271_1
              replace hx271_2 := (HB.out.cell (World.block_lt_of_cell? w _ hx271_2)).trans hx271_2
              replace hx271_3 := (HB.out.cell (World.block_lt_of_cell? w _ hx271_3)).trans hx271_3
              replace hx271_4 := (HB.out.cell (World.block_lt_of_cell? w _ hx271_4)).trans hx271_4
              replace p271 := eq_true p271
              replace q271 := eq_true q271
              try go_wp2_with (first | ((with_reducible refine gate_dst (N := 6) rfl ?_); refine box_event ?hg (N := 6) ?hd (cs := #[.int .i64 0, .int .i64 0, .bool false, .int .i64 0, .string (⟨#[]⟩ : ByteArray)]) (t := 25) ?hr ?_; (case hd => rfl); (case hg => rfl); (case hr => first | (go_simp; done) | (go_simp; rfl)); intro gb272 hg w9 hbox hb; have n0_ := Aside0.mk (below_step (by repeat (first | (with_reducible first | exact HB.out | apply below_alloc | apply pw_below_drewN | apply below_drew1) | exact HB.out)) hb); have n1_ := Aside0.mk (hbox); have n2_ := Aside0.mk ((by rw [hg]; exact (below_size (by repeat (first | (with_reducible first | exact HB.out | apply below_alloc | apply pw_below_drewN | apply below_drew1) | exact HB.out))) : w.heap.size ≤ gb272)); have n3_ := Aside0.mk ((by rw [hg]; exact (below_size (by repeat (first | (with_reducible first | exact HB.out | apply below_alloc | apply pw_below_drewN | apply below_drew1) | exact HB.out))) : w.heap.size ≤ gb272)); clear HB; have HB := n0_; have BK272 := n1_; have GW272 := n2_; have GE272 := n3_; clear n0_ n1_ n2_ n3_; clear hb hbox hg; have hcz10_0 : w9.cell? ⟨gb272, 0, none⟩ = some (.int .i64 0) := (blk_cell BK272.out 0).trans rfl; have hcz10_1 : w9.cell? ⟨gb272, 1, none⟩ = some (.int .i64 0) := (blk_cell BK272.out 1).trans rfl; have hcz10_2 : w9.cell? ⟨gb272, 2, none⟩ = some (.bool false) := (blk_cell BK272.out 2).trans rfl; have hcz10_3 : w9.cell? ⟨gb272, 3, none⟩ = some (.int .i64 0) := (blk_cell BK272.out 3).trans rfl; have hcz10_4 : w9.cell? ⟨gb272, 4, none⟩ = some (.string (⟨#[]⟩ : ByteArray)) := (blk_cell BK272.out 4).trans rfl; have hfz10_0 := blk_frozen BK272.out 0; have hfz10_1 := blk_frozen BK272.out 1; have hfz10_2 := blk_frozen BK272.out 2; have hfz10_3 := blk_frozen BK272.out 3; have hfz10_4 := blk_frozen BK272.out 4))
              have n0_ : Aside0 ((((((w9.setCell ⟨gb272, 0, none⟩ (.int .i64 ((rd_T25 l1 x9_1).f0.f0))).setCell ⟨gb272, 1, none⟩ (.int .i64 ((rd_T25 l1 x9_1).f0.f1))).setCell ⟨gb272, 2, none⟩ (.bool ((rd_T25 l1 x9_1).f1))).setCell ⟨gb272, 3, none⟩ (.int .i64 ((rd_T25 l1 x9_1).f2))).setCell ⟨gb272, 4, none⟩ (.string ((rd_T25 l1 x9_1).f3))).heap[gb272]? = some (.cells #[.int .i64 ((rd_T25 l1 x9_1).f0.f0), .int .i64 ((rd_T25 l1 x9_1).f0.f1), .bool ((rd_T25 l1 x9_1).f1), .int .i64 ((rd_T25 l1 x9_1).f2), .string ((rd_T25 l1 x9_1).f3)] 25 (0, 0))) := ⟨by (with_reducible repeat (first | refine blk_drewN ?_ _ | refine blk_drew ?_ | refine blk_alloc ?_ _)); refine blk_put (cs := #[.int .i64 ((rd_T25 l1 x9_1).f0.f0), .int .i64 ((rd_T25 l1 x9_1).f0.f1), .bool ((rd_T25 l1 x9_1).f1), .int .i64 ((rd_T25 l1 x9_1).f2), .string (⟨#[]⟩ : ByteArray)]) ?_ 4 _ rfl; (with_reducible repeat (first | refine blk_drewN ?_ _ | refine blk_drew ?_ | refine blk_alloc ?_ _)); refine blk_put (cs := #[.int .i64 ((rd_T25 l1 x9_1).f0.f0), .int .i64 ((rd_T25 l1 x9_1).f0.f1), .bool ((rd_T25 l1 x9_1).f1), .int .i64 0, .string (⟨#[]⟩ : ByteArray)]) ?_ 3 _ rfl; (with_reducible repeat (first | refine blk_drewN ?_ _ | refine blk_drew ?_ | refine blk_alloc ?_ _)); refine blk_put (cs := #[.int .i64 ((rd_T25 l1 x9_1).f0.f0), .int .i64 ((rd_T25 l1 x9_1).f0.f1), .bool false, .int .i64 0, .string (⟨#[]⟩ : ByteArray)]) ?_ 2 _ rfl; (with_reducible repeat (first | refine blk_drewN ?_ _ | refine blk_drew ?_ | refine blk_alloc ?_ _)); refine blk_put (cs := #[.int .i64 ((rd_T25 l1 x9_1).f0.f0), .int .i64 0, .bool false, .int .i64 0, .string (⟨#[]⟩ : ByteArray)]) ?_ 1 _ rfl; (with_reducible repeat (first | refine blk_drewN ?_ _ | refine blk_drew ?_ | refine blk_alloc ?_ _)); refine blk_put (cs := #[.int .i64 0, .int .i64 0, .bool false, .int .i64 0, .string (⟨#[]⟩ : ByteArray)]) ?_ 0 _ rfl; (with_reducible repeat (first | refine blk_drewN ?_ _ | refine blk_drew ?_ | refine blk_alloc ?_ _)); exact BK272.out⟩
              have n1_ : Aside0 (Below w.heap.size w (((((w9.setCell ⟨gb272, 0, none⟩ (.int .i64 ((rd_T25 l1 x9_1).f0.f0))).setCell ⟨gb272, 1, none⟩ (.int .i64 ((rd_T25 l1 x9_1).f0.f1))).setCell ⟨gb272, 2, none⟩ (.bool ((rd_T25 l1 x9_1).f1))).setCell ⟨gb272, 3, none⟩ (.int .i64 ((rd_T25 l1 x9_1).f2))).setCell ⟨gb272, 4, none⟩ (.string ((rd_T25 l1 x9_1).f3)))) := ⟨by repeat (first | (with_reducible first | exact HB.out | apply below_alloc | apply pw_below_drewN | apply below_drew1 | refine below_set ?_ GE272.out) | exact HB.out)⟩
              (try clear BK272)
              (try clear HB)
              generalize (((((w9.setCell ⟨gb272, 0, none⟩ (.int .i64 ((rd_T25 l1 x9_1).f0.f0))).setCell ⟨gb272, 1, none⟩ (.int .i64 ((rd_T25 l1 x9_1).f0.f1))).setCell ⟨gb272, 2, none⟩ (.bool ((rd_T25 l1 x9_1).f1))).setCell ⟨gb272, 3, none⟩ (.int .i64 ((rd_T25 l1 x9_1).f2))).setCell ⟨gb272, 4, none⟩ (.string ((rd_T25 l1 x9_1).f3))) = w11 at n0_ n1_ ⊢
              have BK272 := n0_
              have HB := n1_
              clear n0_ n1_
              have n0_ := Aside0.mk (blk_drew BK272.out)
              have n1_ := Aside0.mk (below_drew1 HB.out)
              clear BK272
              clear HB
              have BK272 := n0_
              have HB := n1_
              clear n0_ n1_
              refine start_ (n := 5) (S := fun w' => w'.cell? ⟨gb272, 0, none⟩ = some (.int .i64 ((rd_T25 l1 x9_1).f0.f0)) ∧ w'.cell? ⟨gb272, 1, none⟩ = some (.int .i64 ((rd_T25 l1 x9_1).f0.f1)) ∧ w'.cell? ⟨gb272, 2, none⟩ = some (.bool ((rd_T25 l1 x9_1).f1)) ∧ w'.cell? ⟨gb272, 3, none⟩ = some (.int .i64 ((rd_T25 l1 x9_1).f2)) ∧ w'.cell? ⟨gb272, 4, none⟩ = some (.string ((rd_T25 l1 x9_1).f3))) (ds := []) #[false, false, false, false, false] (by kernel_rfl) rfl rfl ⟨(blk_cell BK272.out 0).trans rfl, (blk_cell BK272.out 1).trans rfl, (blk_cell BK272.out 2).trans rfl, (blk_cell BK272.out 3).trans rfl, (blk_cell BK272.out 4).trans rfl⟩ (fun hHeld => ?_)
              generalize w11.drew = w12 at BK272 HB hHeld ⊢
              refine take_ (i := 0) (N := some 13) (v := ?_) (a' := ?_) #[true, false, false, false, false] rfl rfl (by kernel_rfl) (fun _ _ _ h => h) (Or.inl ⟨by rfl, ?_⟩) hHeld ?_ ?_
              rotate_left
              · rintro w' ⟨s0, s1, s2, s3, s4⟩
                go_simp
                with_reducible rfl
              rotate_left
              · simp only [Act.put, List.setIfInBounds_toArray, List.set_cons_zero, List.set_cons_succ, i64_w, i32_w]
                rfl
              refine take_ (i := 2) (N := some 15) (v := ?_) (a' := ?_) #[true, false, true, false, false] rfl rfl (by kernel_rfl) (fun _ _ _ h => h) (Or.inl ⟨by rfl, ?_⟩) hHeld ?_ ?_
              rotate_left
              · rintro w' ⟨s0, s1, s2, s3, s4⟩
                go_simp
                with_reducible rfl
              rotate_left
              · simp only [Act.put, List.setIfInBounds_toArray, List.set_cons_zero, List.set_cons_succ, i64_w, i32_w]
                rfl
              refine one_ (i := 1) (N := some 14) #[true, true, true, false, false] rfl rfl (by kernel_rfl) (by decide) (fun K hK => ?_)
              refine goes_ Tryd.func12 (by kernel_rfl) rfl #[.agg #[.int .i64 ((rd_T25 l1 x9_1).f0.f0), .int .i64 ((rd_T25 l1 x9_1).f0.f1), .bool ((rd_T25 l1 x9_1).f1), .int .i64 ((rd_T25 l1 x9_1).f2), .string ((rd_T25 l1 x9_1).f3)]] (by rfl) rfl rfl (by (try simp only [List.map_toArray, List.map_cons, List.map_nil]); first | done | rfl | (simp only [List.length_drop, List.length_take]; rfl)) ?_
              with_reducible refine (value_Show.calls k1 ((rd_T25 l1 x9_1).f0.f0) ((rd_T25 l1 x9_1).f0.f1) ((rd_T25 l1 x9_1).f1) ((rd_T25 l1 x9_1).f2) ((rd_T25 l1 x9_1).f3) t273 _ A6.out (Gl.of HG.out (by repeat (first | exact HB.out | apply below_alloc | apply pw_below_drewN | apply below_drew1 | refine below_set ?_ GE272.out)))).mono ?_
              rintro e w13 ⟨rfl, hb⟩
              refine ⟨_, rfl, ?_⟩
              have n0_ := Aside0.mk (blk_below (g := gb272) (o := .cells #[.int .i64 ((rd_T25 l1 x9_1).f0.f0), .int .i64 ((rd_T25 l1 x9_1).f0.f1), .bool ((rd_T25 l1 x9_1).f1), .int .i64 ((rd_T25 l1 x9_1).f2), .string ((rd_T25 l1 x9_1).f3)] 25 (0, 0)) (by (with_reducible repeat (first | refine blk_drewN ?_ _ | refine blk_drew ?_ | refine blk_alloc ?_ _)); exact BK272.out) hb)
              have n1_ := Aside0.mk (below_step (by repeat (first | (with_reducible first | exact HB.out | apply below_alloc | apply pw_below_drewN | apply below_drew1 | refine below_set ?_ GE272.out) | exact HB.out)) hb)
              clear BK272
              clear HB
              have BK272 := n0_
              have HB := n1_
              clear n0_ n1_
              (try clear hb)
              (try clear hb2)
              (try clear hk)
              (try clear hi)
              refine hK.out _ _ ⟨(blk_cell BK272.out 0).trans rfl, (blk_cell BK272.out 1).trans rfl, (blk_cell BK272.out 2).trans rfl, (blk_cell BK272.out 3).trans rfl, (blk_cell BK272.out 4).trans rfl⟩ (fun hHeld => ?_)
              clear hK K
              refine norm_ (a' := ?_) ?_ ?_
              rotate_left
              · show Act.put _ (some 14) _ = _
                simp only [Act.put, List.setIfInBounds_toArray, List.set_cons_zero, List.set_cons_succ, i64_w, i32_w]
                rfl
              refine one_ (i := 3) (N := some 16) #[true, true, true, true, false] rfl rfl (by kernel_rfl) (by decide) (fun K hK => ?_)
              refine goes_ Tryd.func13 (by kernel_rfl) rfl #[.agg #[.int .i64 ((rd_T25 l1 x9_1).f0.f0), .int .i64 ((rd_T25 l1 x9_1).f0.f1), .bool ((rd_T25 l1 x9_1).f1), .int .i64 ((rd_T25 l1 x9_1).f2), .string ((rd_T25 l1 x9_1).f3)]] (by rfl) rfl rfl (by (try simp only [List.map_toArray, List.map_cons, List.map_nil]); first | done | rfl | (simp only [List.length_drop, List.length_take]; rfl)) ?_
              with_reducible refine (colonnaderef02_Show.calls k1 ((rd_T25 l1 x9_1).f0.f0) ((rd_T25 l1 x9_1).f0.f1) ((rd_T25 l1 x9_1).f1) ((rd_T25 l1 x9_1).f2) ((rd_T25 l1 x9_1).f3) t274 _ A7.out).mono ?_
              rintro e w14 ⟨rfl, hb⟩
              refine ⟨_, rfl, ?_⟩
              have n0_ := Aside0.mk (blk_below (g := gb272) (o := .cells #[.int .i64 ((rd_T25 l1 x9_1).f0.f0), .int .i64 ((rd_T25 l1 x9_1).f0.f1), .bool ((rd_T25 l1 x9_1).f1), .int .i64 ((rd_T25 l1 x9_1).f2), .string ((rd_T25 l1 x9_1).f3)] 25 (0, 0)) (by (with_reducible repeat (first | refine blk_drewN ?_ _ | refine blk_drew ?_ | refine blk_alloc ?_ _)); exact BK272.out) hb)
              have n1_ := Aside0.mk (below_step (by repeat (first | (with_reducible first | exact HB.out | apply below_alloc | apply pw_below_drewN | apply below_drew1 | refine below_set ?_ GE272.out) | exact HB.out)) hb)
              clear BK272
              clear HB
              have BK272 := n0_
              have HB := n1_
              clear n0_ n1_
              (try clear hb)
              (try clear hb2)
              (try clear hk)
              (try clear hi)
              refine hK.out _ _ ⟨(blk_cell BK272.out 0).trans rfl, (blk_cell BK272.out 1).trans rfl, (blk_cell BK272.out 2).trans rfl, (blk_cell BK272.out 3).trans rfl, (blk_cell BK272.out 4).trans rfl⟩ (fun hHeld => ?_)
              clear hK K
              refine norm_ (a' := ?_) ?_ ?_
              rotate_left
              · show Act.put _ (some 16) _ = _
                simp only [Act.put, List.setIfInBounds_toArray, List.set_cons_zero, List.set_cons_succ, i64_w, i32_w]
                rfl
              refine pure_ (i := 4) (N := some 17) (v := ?_) (a' := ?_) #[true, true, true, true, true] rfl rfl (by kernel_rfl) (fun _ _ _ h => h) (Or.inl ⟨by rfl, ?_⟩) ?_ ?_
              rotate_left
              · intro w'
                go_simp
                with_reducible rfl
              rotate_left
              · simp only [Act.put, List.setIfInBounds_toArray, List.set_cons_zero, List.set_cons_succ, i64_w, i32_w]
                rfl
              refine done_ (by kernel_rfl) ?_
              try go_wp2
              go_roundg k1
              case measure => have := HK1.out; omega
              case rel => exact ⟨(wrap64 (x9_1 + 1)), (by first | rfl | (simp; done) | (simp [*]; done)), H', ⟨by have := HK1.out; omega⟩, ⟨by repeat (first | (with_reducible first | exact HB.out | apply below_alloc | apply pw_below_drewN | apply below_drew1 | refine below_set ?_ GE272.out) | exact HB.out)⟩⟩
            · rw [if_neg c8] at H
              exact absurd H (by simp)
          · rw [if_neg c5] at H
            exact absurd H (by simp)
        · rw [if_neg c4] at H
          exact absurd H (by simp)
      · rw [if_neg c3] at H
        have c3b0 : decide (x9_1 < (l1.length : Int)) = false := decide_eq_false c3
        clear c3
        replace H := Option.bind_eq_some_iff.mp H
        obtain ⟨t275, A150, H⟩ := H
        replace H : (if t275 = true then ((value_Key.f l1).bind fun t276 => ((colonnaderef02_Key.f k1 l1).bind fun t277 => (if t276.toList = t277.toList then ((value_Hash.f a0 l1).bind fun t278 => ((colonnaderef02_Hash.f k1 a0 l1).bind fun t279 => (some (t278 == t279)))) else (none)))) else (none)) = some r := H
        have A15 := Aside0.mk A150
        clear A150
        by_cases c16 : t275 = true
        · subst c16
          have H1 : ((value_Key.f l1).bind fun t276 => ((colonnaderef02_Key.f k1 l1).bind fun t277 => (if t276.toList = t277.toList then ((value_Hash.f a0 l1).bind fun t278 => ((colonnaderef02_Hash.f k1 a0 l1).bind fun t279 => (some (t278 == t279)))) else (none)))) = some r := by rw [if_pos rfl] at H; exact H
          clear H
          have H := H1
          clear H1
          replace H := Option.bind_eq_some_iff.mp H
          obtain ⟨t276, A170, H⟩ := H
          replace H : ((colonnaderef02_Key.f k1 l1).bind fun t277 => (if t276.toList = t277.toList then ((value_Hash.f a0 l1).bind fun t278 => ((colonnaderef02_Hash.f k1 a0 l1).bind fun t279 => (some (t278 == t279)))) else (none))) = some r := H
          have A17 := Aside0.mk A170
          clear A170
          replace H := Option.bind_eq_some_iff.mp H
          obtain ⟨t277, A180, H⟩ := H
          replace H : (if t276.toList = t277.toList then ((value_Hash.f a0 l1).bind fun t278 => ((colonnaderef02_Hash.f k1 a0 l1).bind fun t279 => (some (t278 == t279)))) else (none)) = some r := H
          have A18 := Aside0.mk A180
          clear A180
          by_cases c19 : t276.toList = t277.toList
          · rw [if_pos c19] at H
            have c19b0 : (t276.toList == t277.toList) = true := beq_iff_eq.mpr c19
            have c19b1 : (t276.toList != t277.toList) = false := bne_eq_false_iff_eq.mpr c19
            clear c19
            replace H := Option.bind_eq_some_iff.mp H
            obtain ⟨t278, A200, H⟩ := H
            replace H : ((colonnaderef02_Hash.f k1 a0 l1).bind fun t279 => (some (t278 == t279))) = some r := H
            have A20 := Aside0.mk A200
            clear A200
            replace H := Option.bind_eq_some_iff.mp H
            obtain ⟨t279, A210, H⟩ := H
            replace H : (some (t278 == t279)) = some r := H
            have A21 := Aside0.mk A210
            clear A210
            obtain rfl := Option.some.inj H
            go_wp2_with (first | ((with_reducible refine gate_callee (f := 9) rfl ?_); refine goesL_ (some 19) rfl rfl Tryd.func9 (by kernel_rfl) rfl #[] rfl (by (try simp only [List.map_toArray, List.map_cons, List.map_nil]); first | done | rfl | (simp only [List.length_drop, List.length_take]; rfl)) ?_; (with_reducible refine (colonnadelaw02_begun.calls k1  true _ A15.out (Gl.of HG.out (by repeat (first | exact HB.out | apply below_alloc | apply pw_below_drewN | apply below_drew1)))).mono ?_); rintro e w22 ⟨rfl, hb⟩; refine ⟨_, rfl, ?_⟩; have n0_ := Aside0.mk (below_step (by repeat (first | (with_reducible first | exact HB.out | apply below_alloc | apply pw_below_drewN | apply below_drew1) | exact HB.out)) hb); clear HB; have HB := n0_; clear n0_; (try clear hb); (try clear hb2); (try clear hk); (try clear hi)) | (go_at_call 14; (with_reducible refine (value_Key.calls _ _ l1 t276 _ ?side1 ?side2 A17.out (Gl.of HG.out (by repeat (first | exact HB.out | apply below_alloc | apply pw_below_drewN | apply below_drew1)))).mono ?_); (case side1 => repeat (first | exact (Kd.C_below HR1.out HB.out) | (with_reducible refine Kd.C_alloc ?_ _) | (with_reducible refine Kd.C_drewN ?_ _) | (with_reducible refine Kd.C_drew ?_))); (case side2 => exact HC1.out); rintro e w23 ⟨rfl, hb⟩; have n0_ := Aside0.mk (below_step (by repeat (first | (with_reducible first | exact HB.out | apply below_alloc | apply pw_below_drewN | apply below_drew1) | exact HB.out)) hb); clear HB; have HB := n0_; clear n0_; (try clear hb); (try clear hb2); (try clear hk); (try clear hi)) | (go_at_call 15; (with_reducible refine (colonnaderef02_Key.calls k1 _ _ l1 t277 _ ?side1 ?side2 A18.out).mono ?_); (case side1 => repeat (first | exact (Kd.C_below HR1.out HB.out) | (with_reducible refine Kd.C_alloc ?_ _) | (with_reducible refine Kd.C_drewN ?_ _) | (with_reducible refine Kd.C_drew ?_))); (case side2 => exact HC1.out); rintro e w24 ⟨rfl, hb⟩; have n0_ := Aside0.mk (below_step (by repeat (first | (with_reducible first | exact HB.out | apply below_alloc | apply pw_below_drewN | apply below_drew1) | exact HB.out)) hb); clear HB; have HB := n0_; clear n0_; (try clear hb); (try clear hb2); (try clear hk); (try clear hi)) | (go_at_call 16; (with_reducible refine (value_Hash.calls a0 _ _ l1 t278 _ ?side1 ?side2 A20.out (Gl.of HG.out (by repeat (first | exact HB.out | apply below_alloc | apply pw_below_drewN | apply below_drew1)))).mono ?_); (case side1 => repeat (first | exact (Kd.C_below HR1.out HB.out) | (with_reducible refine Kd.C_alloc ?_ _) | (with_reducible refine Kd.C_drewN ?_ _) | (with_reducible refine Kd.C_drew ?_))); (case side2 => exact HC1.out); rintro e w25 ⟨rfl, hb⟩; have n0_ := Aside0.mk (below_step (by repeat (first | (with_reducible first | exact HB.out | apply below_alloc | apply pw_below_drewN | apply below_drew1) | exact HB.out)) hb); clear HB; have HB := n0_; clear n0_; (try clear hb); (try clear hb2); (try clear hk); (try clear hi)) | (go_at_call 17; (with_reducible refine (colonnaderef02_Hash.calls k1 a0 _ _ l1 t279 _ ?side1 ?side2 A21.out).mono ?_); (case side1 => repeat (first | exact (Kd.C_below HR1.out HB.out) | (with_reducible refine Kd.C_alloc ?_ _) | (with_reducible refine Kd.C_drewN ?_ _) | (with_reducible refine Kd.C_drew ?_))); (case side2 => exact HC1.out); rintro e w26 ⟨rfl, hb⟩; have n0_ := Aside0.mk (below_step (by repeat (first | (with_reducible first | exact HB.out | apply below_alloc | apply pw_below_drewN | apply below_drew1) | exact HB.out)) hb); clear HB; have HB := n0_; clear n0_; (try clear hb); (try clear hb2); (try clear hk); (try clear hi)))
            go_ret
            exact ⟨by first | rfl | (simp [errW_none, errW_some] <;> rfl) | (simp [*, errW_none, errW_some] <;> rfl), by repeat (first | (with_reducible first | exact HB.out | apply below_alloc | apply pw_below_drewN | apply below_drew1) | exact HB.out)⟩
          · rw [if_neg c19] at H
            exact absurd H (by simp)
        · replace c16 := Bool.eq_false_iff.mpr c16
          subst c16
          have H1 : (none) = some r := by rw [if_neg (show ¬ (false = true) by decide)] at H; exact H
          clear H
          have H := H1
          clear H1
          exact absurd H (by simp)

/-! ### value_CheckType: function 18 -/
def value_CheckType.f (a0_0 : Int) (a0_1 : Int) : Option (Int) := if a0_0 < 1 then (some 21) else (if a0_0 > 5 then (some 21) else ((value_scaled.f a0_1).bind fun t281 => (if t281 = true then (if a0_1 = 0 then (some 0) else (if a0_0 = 3 then (some 0) else (some 21))) else (some 21))))
set_option maxHeartbeats 8000000 in
set_option maxRecDepth 100000 in
theorem value_CheckType.calls (a0_0 : Int) (a0_1 : Int) (r : Int) (w : World) (h : value_CheckType.f a0_0 a0_1 = some r) :
    Calls Tryd.prog 18 #[.agg #[.int .i64 a0_0, .int .i64 a0_1]] w fun e w' => e = .returned (.int .i64 r) ∧ Below w.heap.size w w' := by
  have hu23 := Tryd.underlying23
  have HB := Aside0.mk (Below.refl w.heap.size w)
  have H : (if a0_0 < 1 then (some 21) else (if a0_0 > 5 then (some 21) else ((value_scaled.f a0_1).bind fun t281 => (if t281 = true then (if a0_1 = 0 then (some 0) else (if a0_0 = 3 then (some 0) else (some 21))) else (some 21))))) = some r := h
  clear h
  by_cases c2 : a0_0 < 1
  · rw [if_pos c2] at H
    have c2b0 : decide (a0_0 < 1) = true := decide_eq_true c2
    clear c2
    obtain rfl := Option.some.inj H
    go_enter Tryd.func18, Tryd.ntmps18
    go_wp2_with (first | ((with_reducible refine gate_dst (N := 1) rfl ?_); refine box_event ?hg (N := 1) ?hd (cs := #[.int .i64 a0_0, .int .i64 a0_1]) (t := 23) ?hr ?_; (case hd => rfl); (case hg => rfl); (case hr => first | (go_simp; done) | (go_simp; rfl)); intro gb280 hg w3 hbox hb; have n0_ := Aside0.mk (below_step (by repeat (first | (with_reducible first | exact HB.out | apply below_alloc | apply pw_below_drewN | apply below_drew1) | exact HB.out)) hb); have n1_ := Aside0.mk (hbox); have n2_ := Aside0.mk ((by rw [hg]; exact (below_size (by repeat (first | (with_reducible first | exact HB.out | apply below_alloc | apply pw_below_drewN | apply below_drew1) | exact HB.out))) : w.heap.size ≤ gb280)); have n3_ := Aside0.mk ((by rw [hg]; exact (below_size (by repeat (first | (with_reducible first | exact HB.out | apply below_alloc | apply pw_below_drewN | apply below_drew1) | exact HB.out))) : w.heap.size ≤ gb280)); clear HB; have HB := n0_; have BK280 := n1_; have GW280 := n2_; have GE280 := n3_; clear n0_ n1_ n2_ n3_; clear hb hbox hg; have hcz4_0 : w3.cell? ⟨gb280, 0, none⟩ = some (.int .i64 a0_0) := (blk_cell BK280.out 0).trans rfl; have hcz4_1 : w3.cell? ⟨gb280, 1, none⟩ = some (.int .i64 a0_1) := (blk_cell BK280.out 1).trans rfl; have hfz4_0 := blk_frozen BK280.out 0; have hfz4_1 := blk_frozen BK280.out 1))
    go_ret
    exact ⟨by first | rfl | (simp [errW_none, errW_some] <;> rfl) | (simp [*, errW_none, errW_some] <;> rfl), by repeat (first | (with_reducible first | exact HB.out | apply below_alloc | apply pw_below_drewN | apply below_drew1 | refine below_set ?_ GE280.out) | exact HB.out)⟩
  · rw [if_neg c2] at H
    have c2b0 : decide (a0_0 < 1) = false := decide_eq_false c2
    clear c2
    by_cases c5 : a0_0 > 5
    · rw [if_pos c5] at H
      have c5b0 : decide (5 < a0_0) = true := decide_eq_true c5
      clear c5
      obtain rfl := Option.some.inj H
      go_enter Tryd.func18, Tryd.ntmps18
      go_wp2_with (first | ((with_reducible refine gate_dst (N := 1) rfl ?_); refine box_event ?hg (N := 1) ?hd (cs := #[.int .i64 a0_0, .int .i64 a0_1]) (t := 23) ?hr ?_; (case hd => rfl); (case hg => rfl); (case hr => first | (go_simp; done) | (go_simp; rfl)); intro gb280 hg w6 hbox hb; have n0_ := Aside0.mk (below_step (by repeat (first | (with_reducible first | exact HB.out | apply below_alloc | apply pw_below_drewN | apply below_drew1) | exact HB.out)) hb); have n1_ := Aside0.mk (hbox); have n2_ := Aside0.mk ((by rw [hg]; exact (below_size (by repeat (first | (with_reducible first | exact HB.out | apply below_alloc | apply pw_below_drewN | apply below_drew1) | exact HB.out))) : w.heap.size ≤ gb280)); have n3_ := Aside0.mk ((by rw [hg]; exact (below_size (by repeat (first | (with_reducible first | exact HB.out | apply below_alloc | apply pw_below_drewN | apply below_drew1) | exact HB.out))) : w.heap.size ≤ gb280)); clear HB; have HB := n0_; have BK280 := n1_; have GW280 := n2_; have GE280 := n3_; clear n0_ n1_ n2_ n3_; clear hb hbox hg; have hcz7_0 : w6.cell? ⟨gb280, 0, none⟩ = some (.int .i64 a0_0) := (blk_cell BK280.out 0).trans rfl; have hcz7_1 : w6.cell? ⟨gb280, 1, none⟩ = some (.int .i64 a0_1) := (blk_cell BK280.out 1).trans rfl; have hfz7_0 := blk_frozen BK280.out 0; have hfz7_1 := blk_frozen BK280.out 1))
      go_ret
      exact ⟨by first | rfl | (simp [errW_none, errW_some] <;> rfl) | (simp [*, errW_none, errW_some] <;> rfl), by repeat (first | (with_reducible first | exact HB.out | apply below_alloc | apply pw_below_drewN | apply below_drew1 | refine below_set ?_ GE280.out) | exact HB.out)⟩
    · rw [if_neg c5] at H
      have c5b0 : decide (5 < a0_0) = false := decide_eq_false c5
      clear c5
      replace H := Option.bind_eq_some_iff.mp H
      obtain ⟨t281, A80, H⟩ := H
      replace H : (if t281 = true then (if a0_1 = 0 then (some 0) else (if a0_0 = 3 then (some 0) else (some 21))) else (some 21)) = some r := H
      have A8 := Aside0.mk A80
      clear A80
      by_cases c9 : t281 = true
      · subst c9
        have H1 : (if a0_1 = 0 then (some 0) else (if a0_0 = 3 then (some 0) else (some 21))) = some r := by rw [if_pos rfl] at H; exact H
        clear H
        have H := H1
        clear H1
        by_cases c10 : a0_1 = 0
        · rw [if_pos c10] at H
          have c10b0 : (a0_1 == 0) = true := beq_iff_eq.mpr c10
          have c10b1 : (a0_1 != 0) = false := bne_eq_false_iff_eq.mpr c10
          clear c10
          obtain rfl := Option.some.inj H
          go_enter Tryd.func18, Tryd.ntmps18
          go_wp2_with (first | ((with_reducible refine gate_dst (N := 1) rfl ?_); refine box_event ?hg (N := 1) ?hd (cs := #[.int .i64 a0_0, .int .i64 a0_1]) (t := 23) ?hr ?_; (case hd => rfl); (case hg => rfl); (case hr => first | (go_simp; done) | (go_simp; rfl)); intro gb280 hg w11 hbox hb; have n0_ := Aside0.mk (below_step (by repeat (first | (with_reducible first | exact HB.out | apply below_alloc | apply pw_below_drewN | apply below_drew1) | exact HB.out)) hb); have n1_ := Aside0.mk (hbox); have n2_ := Aside0.mk ((by rw [hg]; exact (below_size (by repeat (first | (with_reducible first | exact HB.out | apply below_alloc | apply pw_below_drewN | apply below_drew1) | exact HB.out))) : w.heap.size ≤ gb280)); have n3_ := Aside0.mk ((by rw [hg]; exact (below_size (by repeat (first | (with_reducible first | exact HB.out | apply below_alloc | apply pw_below_drewN | apply below_drew1) | exact HB.out))) : w.heap.size ≤ gb280)); clear HB; have HB := n0_; have BK280 := n1_; have GW280 := n2_; have GE280 := n3_; clear n0_ n1_ n2_ n3_; clear hb hbox hg; have hcz12_0 : w11.cell? ⟨gb280, 0, none⟩ = some (.int .i64 a0_0) := (blk_cell BK280.out 0).trans rfl; have hcz12_1 : w11.cell? ⟨gb280, 1, none⟩ = some (.int .i64 a0_1) := (blk_cell BK280.out 1).trans rfl; have hfz12_0 := blk_frozen BK280.out 0; have hfz12_1 := blk_frozen BK280.out 1) | (go_at_call 54; (with_reducible refine (value_scaled.calls a0_1 true _ A8.out).mono ?_); rintro e w' ⟨rfl, ⟨nd, rfl⟩⟩))
          go_ret
          exact ⟨by first | rfl | (simp [errW_none, errW_some] <;> rfl) | (simp [*, errW_none, errW_some] <;> rfl), by repeat (first | (with_reducible first | exact HB.out | apply below_alloc | apply pw_below_drewN | apply below_drew1 | refine below_set ?_ GE280.out) | exact HB.out)⟩
        · rw [if_neg c10] at H
          have c10b0 : (a0_1 == 0) = false := beq_eq_false_iff_ne.mpr c10
          have c10b1 : (a0_1 != 0) = true := bne_iff_ne.mpr c10
          by_cases c13 : a0_0 = 3
          · rw [if_pos c13] at H
            have c13b0 : (a0_0 == 3) = true := beq_iff_eq.mpr c13
            have c13b1 : (a0_0 != 3) = false := bne_eq_false_iff_eq.mpr c13
            clear c13
            obtain rfl := Option.some.inj H
            go_enter Tryd.func18, Tryd.ntmps18
            go_wp2_with (first | ((with_reducible refine gate_dst (N := 1) rfl ?_); refine box_event ?hg (N := 1) ?hd (cs := #[.int .i64 a0_0, .int .i64 a0_1]) (t := 23) ?hr ?_; (case hd => rfl); (case hg => rfl); (case hr => first | (go_simp; done) | (go_simp; rfl)); intro gb280 hg w14 hbox hb; have n0_ := Aside0.mk (below_step (by repeat (first | (with_reducible first | exact HB.out | apply below_alloc | apply pw_below_drewN | apply below_drew1) | exact HB.out)) hb); have n1_ := Aside0.mk (hbox); have n2_ := Aside0.mk ((by rw [hg]; exact (below_size (by repeat (first | (with_reducible first | exact HB.out | apply below_alloc | apply pw_below_drewN | apply below_drew1) | exact HB.out))) : w.heap.size ≤ gb280)); have n3_ := Aside0.mk ((by rw [hg]; exact (below_size (by repeat (first | (with_reducible first | exact HB.out | apply below_alloc | apply pw_below_drewN | apply below_drew1) | exact HB.out))) : w.heap.size ≤ gb280)); clear HB; have HB := n0_; have BK280 := n1_; have GW280 := n2_; have GE280 := n3_; clear n0_ n1_ n2_ n3_; clear hb hbox hg; have hcz15_0 : w14.cell? ⟨gb280, 0, none⟩ = some (.int .i64 a0_0) := (blk_cell BK280.out 0).trans rfl; have hcz15_1 : w14.cell? ⟨gb280, 1, none⟩ = some (.int .i64 a0_1) := (blk_cell BK280.out 1).trans rfl; have hfz15_0 := blk_frozen BK280.out 0; have hfz15_1 := blk_frozen BK280.out 1) | (go_at_call 54; (with_reducible refine (value_scaled.calls a0_1 true _ A8.out).mono ?_); rintro e w' ⟨rfl, ⟨nd, rfl⟩⟩))
            go_ret
            exact ⟨by first | rfl | (simp [errW_none, errW_some] <;> rfl) | (simp [*, errW_none, errW_some] <;> rfl), by repeat (first | (with_reducible first | exact HB.out | apply below_alloc | apply pw_below_drewN | apply below_drew1 | refine below_set ?_ GE280.out) | exact HB.out)⟩
          · rw [if_neg c13] at H
            have c13b0 : (a0_0 == 3) = false := beq_eq_false_iff_ne.mpr c13
            have c13b1 : (a0_0 != 3) = true := bne_iff_ne.mpr c13
            obtain rfl := Option.some.inj H
            go_enter Tryd.func18, Tryd.ntmps18
            go_wp2_with (first | ((with_reducible refine gate_dst (N := 1) rfl ?_); refine box_event ?hg (N := 1) ?hd (cs := #[.int .i64 a0_0, .int .i64 a0_1]) (t := 23) ?hr ?_; (case hd => rfl); (case hg => rfl); (case hr => first | (go_simp; done) | (go_simp; rfl)); intro gb280 hg w16 hbox hb; have n0_ := Aside0.mk (below_step (by repeat (first | (with_reducible first | exact HB.out | apply below_alloc | apply pw_below_drewN | apply below_drew1) | exact HB.out)) hb); have n1_ := Aside0.mk (hbox); have n2_ := Aside0.mk ((by rw [hg]; exact (below_size (by repeat (first | (with_reducible first | exact HB.out | apply below_alloc | apply pw_below_drewN | apply below_drew1) | exact HB.out))) : w.heap.size ≤ gb280)); have n3_ := Aside0.mk ((by rw [hg]; exact (below_size (by repeat (first | (with_reducible first | exact HB.out | apply below_alloc | apply pw_below_drewN | apply below_drew1) | exact HB.out))) : w.heap.size ≤ gb280)); clear HB; have HB := n0_; have BK280 := n1_; have GW280 := n2_; have GE280 := n3_; clear n0_ n1_ n2_ n3_; clear hb hbox hg; have hcz17_0 : w16.cell? ⟨gb280, 0, none⟩ = some (.int .i64 a0_0) := (blk_cell BK280.out 0).trans rfl; have hcz17_1 : w16.cell? ⟨gb280, 1, none⟩ = some (.int .i64 a0_1) := (blk_cell BK280.out 1).trans rfl; have hfz17_0 := blk_frozen BK280.out 0; have hfz17_1 := blk_frozen BK280.out 1) | (go_at_call 54; (with_reducible refine (value_scaled.calls a0_1 true _ A8.out).mono ?_); rintro e w' ⟨rfl, ⟨nd, rfl⟩⟩))
            go_ret
            exact ⟨by first | rfl | (simp [errW_none, errW_some] <;> rfl) | (simp [*, errW_none, errW_some] <;> rfl), by repeat (first | (with_reducible first | exact HB.out | apply below_alloc | apply pw_below_drewN | apply below_drew1 | refine below_set ?_ GE280.out) | exact HB.out)⟩
      · replace c9 := Bool.eq_false_iff.mpr c9
        subst c9
        have H1 : (some 21) = some r := by rw [if_neg (show ¬ (false = true) by decide)] at H; exact H
        clear H
        have H := H1
        clear H1
        obtain rfl := Option.some.inj H
        go_enter Tryd.func18, Tryd.ntmps18
        go_wp2_with (first | ((with_reducible refine gate_dst (N := 1) rfl ?_); refine box_event ?hg (N := 1) ?hd (cs := #[.int .i64 a0_0, .int .i64 a0_1]) (t := 23) ?hr ?_; (case hd => rfl); (case hg => rfl); (case hr => first | (go_simp; done) | (go_simp; rfl)); intro gb280 hg w18 hbox hb; have n0_ := Aside0.mk (below_step (by repeat (first | (with_reducible first | exact HB.out | apply below_alloc | apply pw_below_drewN | apply below_drew1) | exact HB.out)) hb); have n1_ := Aside0.mk (hbox); have n2_ := Aside0.mk ((by rw [hg]; exact (below_size (by repeat (first | (with_reducible first | exact HB.out | apply below_alloc | apply pw_below_drewN | apply below_drew1) | exact HB.out))) : w.heap.size ≤ gb280)); have n3_ := Aside0.mk ((by rw [hg]; exact (below_size (by repeat (first | (with_reducible first | exact HB.out | apply below_alloc | apply pw_below_drewN | apply below_drew1) | exact HB.out))) : w.heap.size ≤ gb280)); clear HB; have HB := n0_; have BK280 := n1_; have GW280 := n2_; have GE280 := n3_; clear n0_ n1_ n2_ n3_; clear hb hbox hg; have hcz19_0 : w18.cell? ⟨gb280, 0, none⟩ = some (.int .i64 a0_0) := (blk_cell BK280.out 0).trans rfl; have hcz19_1 : w18.cell? ⟨gb280, 1, none⟩ = some (.int .i64 a0_1) := (blk_cell BK280.out 1).trans rfl; have hfz19_0 := blk_frozen BK280.out 0; have hfz19_1 := blk_frozen BK280.out 1) | (go_at_call 54; (with_reducible refine (value_scaled.calls a0_1 false _ A8.out).mono ?_); rintro e w' ⟨rfl, ⟨nd, rfl⟩⟩))
        go_ret
        exact ⟨by first | rfl | (simp [errW_none, errW_some] <;> rfl) | (simp [*, errW_none, errW_some] <;> rfl), by repeat (first | (with_reducible first | exact HB.out | apply below_alloc | apply pw_below_drewN | apply below_drew1 | refine below_set ?_ GE280.out) | exact HB.out)⟩

/-! ### num_Fits: function 56 -/
def num_Fits.f (a0 : Int) : Option (Bool) := if (-999999999999999999) ≤ a0 then (some (decide (a0 ≤ 999999999999999999))) else (some false)
set_option maxHeartbeats 8000000 in
set_option maxRecDepth 100000 in
theorem num_Fits.calls (a0 : Int) (r : Bool) (w : World) (h : num_Fits.f a0 = some r) :
    Calls Tryd.prog 56 #[.int .i64 a0] w fun e w' => e = .returned (.bool r) ∧ Drawn0 w w' := by
  have H : (if (-999999999999999999) ≤ a0 then (some (decide (a0 ≤ 999999999999999999))) else (some false)) = some r := h
  clear h
  by_cases c2 : (-999999999999999999) ≤ a0
  · rw [if_pos c2] at H
    have c2b0 : decide ((-999999999999999999) ≤ a0) = true := decide_eq_true c2
    clear c2
    obtain rfl := Option.some.inj H
    go_enter Tryd.func56, Tryd.ntmps56
    go_wp2
    go_ret
    exact ⟨by first | rfl | (simp; done) | (simp [*]; done), by repeat (first | exact Drawn0.refl _ | apply Drawn0.step)⟩
  · rw [if_neg c2] at H
    have c2b0 : decide ((-999999999999999999) ≤ a0) = false := decide_eq_false c2
    clear c2
    obtain rfl := Option.some.inj H
    go_enter Tryd.func56, Tryd.ntmps56
    go_wp2
    go_ret
    exact ⟨by first | rfl | (simp; done) | (simp [*]; done), by repeat (first | exact Drawn0.refl _ | apply Drawn0.step)⟩

end Go.Proofs.YtjpgjggbanpegaaDoor.K
