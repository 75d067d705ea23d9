/- PRINTED BY A PROGRAM OF THIS SESSION (px.py, over the kit's print): Lean functions with the answers of Go functions of the given program, and proofs that the Go code comes to these answers; each under the conditions that its theorem states. -/
import Derived.Test.YtjpgjggbanpegaaGreatDoorE0
import Derived.Test.YtjpgjggbanpegaaGreatDoorE7
import Derived.Test.YtjpgjggbanpegaaGreatDoorE8
import Derived.Test.YtjpgjggbanpegaaGreatDoorE10
namespace Go.Proofs.YtjpgjggbanpegaaGreatDoor.E
open Go.RowKit Go.Proofs.YtjpgjggbanpegaaGreatDoorW.PrintWords Go.Proofs.YtjpgjggbanpegaaGreatDoorW.PrintLast Go.Proofs.YtjpgjggbanpegaaGreatDoorW.PrintMore
attribute [local go_sem] max2_int min2_int max_two min_two max_three min_three max_four min_four   -- for this text's walks alone
set_option linter.unusedVariables false
set_option linter.unusedSimpArgs false
theorem zE11_0 {P : Prop} (h : P := by (with_reducible repeat (first | refine blk_drewN ?_ _ | refine blk_drew ?_ | refine blk_alloc ?_ _)); refine blk_put (cs := #[.int .i64 0, .int .i64 0, .bool false, .int .i64 0, .string (⟨#[]⟩ : ByteArray)]) ?_ 4 _ rfl; (with_reducible repeat (first | refine blk_drewN ?_ _ | refine blk_drew ?_ | refine blk_alloc ?_ _)); refine blk_put (cs := #[.int .i64 0, .int .i64 0, .bool false, .int .i64 0, .string (⟨#[]⟩ : ByteArray)]) ?_ 3 _ rfl; (with_reducible repeat (first | refine blk_drewN ?_ _ | refine blk_drew ?_ | refine blk_alloc ?_ _)); refine blk_put (cs := #[.int .i64 0, .int .i64 0, .bool false, .int .i64 0, .string (⟨#[]⟩ : ByteArray)]) ?_ 2 _ rfl; (with_reducible repeat (first | refine blk_drewN ?_ _ | refine blk_drew ?_ | refine blk_alloc ?_ _)); refine blk_put (cs := #[.int .i64 0, .int .i64 0, .bool false, .int .i64 0, .string (⟨#[]⟩ : ByteArray)]) ?_ 1 _ rfl; (with_reducible repeat (first | refine blk_drewN ?_ _ | refine blk_drew ?_ | refine blk_alloc ?_ _)); refine blk_put (cs := #[.int .i64 0, .int .i64 0, .bool false, .int .i64 0, .string (⟨#[]⟩ : ByteArray)]) ?_ 0 _ rfl; (with_reducible repeat (first | refine blk_drewN ?_ _ | refine blk_drew ?_ | refine blk_alloc ?_ _)); exact BK306.out) : P := h
theorem zE11_1 {P : Prop} (h : P := by repeat (first | (with_reducible first | exact HB.out | apply below_alloc | apply pw_below_drewN | apply below_drew1 | refine below_set ?_ GE304.out | refine below_set ?_ GE305.out | refine below_set ?_ GE306.out) | exact HB.out)) : P := h
theorem zE11_2 {P : Prop} (h : P := by (with_reducible repeat (first | refine blk_drewN ?_ _ | refine blk_drew ?_ | refine blk_alloc ?_ _)); exact BK304.out) : P := h
theorem zE11_3 {P : Prop} (h : P := by (try simp only [List.map_toArray, List.map_cons, List.map_nil]); first | done | rfl | (simp only [List.length_drop, List.length_take]; rfl)) : P := h
theorem zE11_4 {P : Prop} (h : P := by (with_reducible repeat (first | refine blk_drewN ?_ _ | refine blk_drew ?_ | refine blk_alloc ?_ _)); exact BK305.out) : P := h
theorem zE11_5 {P : Prop} (h : P := by (with_reducible repeat (first | refine blk_drewN ?_ _ | refine blk_drew ?_ | refine blk_alloc ?_ _)); exact BK306.out) : P := h
theorem zE11_6 {P : Prop} (h : P := by kernel_rfl) : P := h
theorem zE11_7 {P : Prop} (h : P := by repeat (first | (with_reducible first | exact HB.out | apply below_alloc | apply pw_below_drewN | apply below_drew1 | refine below_set ?_ GE304.out | refine below_set ?_ GE305.out) | exact HB.out)) : P := h
theorem zE11_8 {P : Prop} (h : P := by repeat (first | (with_reducible first | exact HB.out | apply below_alloc | apply pw_below_drewN | apply below_drew1 | refine below_set ?_ GE304.out | refine below_set ?_ GE305.out | refine below_set ?_ GE306.out | refine below_set ?_ GE331.out) | exact HB.out)) : P := h
theorem zE11_9 {P : Prop} (h : P := by repeat (first | (with_reducible first | exact HB.out | apply below_alloc | apply pw_below_drewN | apply below_drew1 | refine below_set ?_ GE304.out) | exact HB.out)) : P := h
theorem zE11_10 {P : Prop} (h : P := by repeat (first | (with_reducible first | exact HB.out | apply below_alloc | apply pw_below_drewN | apply below_drew1) | exact HB.out)) : P := h
theorem zE11_11 {P : Prop} (h : P := by first | rfl | (simp; done) | (simp [*]; done)) : P := h
theorem zE11_12 {P : Prop} (h : P := by (with_reducible repeat (first | refine blk_drewN ?_ _ | refine blk_drew ?_ | refine blk_alloc ?_ _)); exact BK331.out) : P := h
theorem zE11_13 {P : Prop} (h : P := by rw [hg]; exact Nat.ne_of_lt (blk_lt (g := gb304) (o := .cells #[.int .i64 a0_0, .int .i64 a0_1, .bool a0_2, .int .i64 a0_3, .string a0_4] 25 (0, 0)) zE11_2)) : P := h
theorem zE11_14 {P : Prop} (h : P := by rw [hg]; exact Nat.ne_of_gt (blk_lt (g := gb304) (o := .cells #[.int .i64 a0_0, .int .i64 a0_1, .bool a0_2, .int .i64 a0_3, .string a0_4] 25 (0, 0)) zE11_2)) : P := h
theorem zE11_15 {P : Prop} (h : P := by rw [hg]; exact Nat.ne_of_lt (blk_lt (g := gb305) (o := .cells #[.int .i64 a1_0, .int .i64 a1_1] 23 (0, 0)) zE11_4)) : P := h
theorem zE11_16 {P : Prop} (h : P := by rw [hg]; exact Nat.ne_of_gt (blk_lt (g := gb305) (o := .cells #[.int .i64 a1_0, .int .i64 a1_1] 23 (0, 0)) zE11_4)) : P := h

/-! ### colonnaderef02_Cast: function 6 -/
mutual
def colonnaderef02_Cast.j0 : Nat → Int → Bool → Int → Int → Bool → Int → ByteArray → Int → Int → Int → Int → Bool → Int → ByteArray → Option (Int × Int × Bool × Int × ByteArray × Int)
 | 0, _, _, _, _, _, _, _, _, _, _, _, _, _, _ => none
 | k + 1, x7, x64, x305000, x305001, x305002, x305003, x305004, x306000, x306001, x332000, x332001, x332002, x332003, x332004 => if x64 = true then (if x7 = 3 then (if x305001 < 0 then (colonnaderef02_Cast.j1 k true x305000 x305001 x305002 x305003 x305004 x306000 x306001 x332000 x332001 x332002 x332003 x332004) else (colonnaderef02_Cast.j1 k (decide (x305001 > 18)) x305000 x305001 x305002 x305003 x305004 x306000 x306001 x332000 x332001 x332002 x332003 x332004)) else (colonnaderef02_Cast.j1 k false x305000 x305001 x305002 x305003 x305004 x306000 x306001 x332000 x332001 x332002 x332003 x332004)) else (some (x332000, x332001, x332002, x332003, x332004, 0))
def colonnaderef02_Cast.j1 : Nat → Bool → Int → Int → Bool → Int → ByteArray → Int → Int → Int → Int → Bool → Int → ByteArray → Option (Int × Int × Bool × Int × ByteArray × Int)
 | 0, _, _, _, _, _, _, _, _, _, _, _, _, _ => none
 | k + 1, x78, x305000, x305001, x305002, x305003, x305004, x306000, x306001, x332000, x332001, x332002, x332003, x332004 => if x78 = true then (some (0, 0, false, 0, (⟨#[]⟩ : ByteArray), 10)) else ((colonnaderef02_scale.f x305000 x305001 x305002 x305003 x305004).bind fun t332 => ((colonnaderef01_Scale.f k x305003 t332 x306001).bind fun bt333 => (if bt333.2 = 0 then (some (x332000, x332001, x332002, bt333.1, x332004, 0)) else (some (0, 0, false, 0, (⟨#[]⟩ : ByteArray), bt333.2)))))
end
def colonnaderef02_Cast.f (k : Nat) (a0_0 : Int) (a0_1 : Int) (a0_2 : Bool) (a0_3 : Int) (a0_4 : ByteArray) (a1_0 : Int) (a1_1 : Int) : Option (Int × Int × Bool × Int × ByteArray × Int) := (colonnaderef02_CheckType.f a1_0 a1_1).bind fun t307 => (if t307 = 0 then ((colonnaderef02_way.f a0_0 a1_0).bind fun t308 => (if t308 = true then (if a0_2 = true then ((colonnaderef02_None.f a1_0 a1_1).bind fun bt309 => (some (bt309.1, bt309.2.1, bt309.2.2.1, bt309.2.2.2.1, bt309.2.2.2.2, 0))) else (if a1_0 = 4 then (if a0_0 = 4 then (if (a0_4.size : Int) > 256 then (some (0, 0, false, 0, (⟨#[]⟩ : ByteArray), 10)) else ((colonnaderef02_OfText.f a0_4).bind fun bt314 => (some (bt314.1, bt314.2.1, bt314.2.2.1, bt314.2.2.2.1, bt314.2.2.2.2, 0)))) else ((colonnaderef02_Show.f k a0_0 a0_1 a0_2 a0_3 a0_4).bind fun t319 => (if (t319.size : Int) > 256 then (some (0, 0, false, 0, (⟨#[]⟩ : ByteArray), 10)) else ((colonnaderef02_OfText.f t319).bind fun bt320 => (some (bt320.1, bt320.2.1, bt320.2.2.1, bt320.2.2.2.1, bt320.2.2.2.2, 0)))))) else (if a0_0 = 4 then ((colonnaderef02_read.f k a0_4 a1_0 a1_1).bind fun bt325 => (some (bt325.1, bt325.2.1, bt325.2.2.1, bt325.2.2.2.1, bt325.2.2.2.2.1, bt325.2.2.2.2.2))) else (if a0_0 = 3 then (colonnaderef02_Cast.j0 k a0_0 true a0_0 a0_1 a0_2 a0_3 a0_4 a1_0 a1_1 a1_0 a1_1 false a0_3 (⟨#[]⟩ : ByteArray)) else (colonnaderef02_Cast.j0 k a0_0 (a1_0 == 3) a0_0 a0_1 a0_2 a0_3 a0_4 a1_0 a1_1 a1_0 a1_1 false a0_3 (⟨#[]⟩ : ByteArray)))))) else (some (0, 0, false, 0, (⟨#[]⟩ : ByteArray), 21)))) else (some (0, 0, false, 0, (⟨#[]⟩ : ByteArray), t307)))
theorem colonnaderef02_Cast.mono_l : ∀ k, (∀ y0 y1 y2 y3 y4 y5 y6 y7 y8 y9 y10 y11 y12 y13, LeO (colonnaderef02_Cast.j0 k y0 y1 y2 y3 y4 y5 y6 y7 y8 y9 y10 y11 y12 y13) (colonnaderef02_Cast.j0 (k + 1) y0 y1 y2 y3 y4 y5 y6 y7 y8 y9 y10 y11 y12 y13)) ∧ (∀ y0 y1 y2 y3 y4 y5 y6 y7 y8 y9 y10 y11 y12, LeO (colonnaderef02_Cast.j1 k y0 y1 y2 y3 y4 y5 y6 y7 y8 y9 y10 y11 y12) (colonnaderef02_Cast.j1 (k + 1) y0 y1 y2 y3 y4 y5 y6 y7 y8 y9 y10 y11 y12))
 | 0 => ⟨fun _ _ _ _ _ _ _ _ _ _ _ _ _ _ r h => by simp [colonnaderef02_Cast.j0] at h, fun _ _ _ _ _ _ _ _ _ _ _ _ _ r h => by simp [colonnaderef02_Cast.j1] at h⟩
 | k + 1 => by
  obtain ⟨ih0, ih1⟩ := colonnaderef02_Cast.mono_l k
  refine ⟨?_, ?_⟩
  ·intro y0 y1 y2 y3 y4 y5 y6 y7 y8 y9 y10 y11 y12 y13
   unfold colonnaderef02_Cast.j0
   repeat' first
   | (with_reducible exact ih0 _ _ _ _ _ _ _ _ _ _ _ _ _ _)
   | (with_reducible exact ih1 _ _ _ _ _ _ _ _ _ _ _ _ _)
   | (with_reducible exact colonnaderef01_Scale.mono _ _ _ _)
   | (with_reducible exact colonnaderef02_Show.mono _ _ _ _ _ _)
   | (with_reducible exact colonnaderef02_read.mono _ _ _ _)
   | (with_reducible exact LeO.refl _)
   | (with_reducible exact LeO.none _)
   | (with_reducible refine LeO.ite ?_ ?_)
   | (with_reducible refine LeO.bind ?_ (fun _ => ?_))
   | exact ih0 _ _ _ _ _ _ _ _ _ _ _ _ _ _
   | exact ih1 _ _ _ _ _ _ _ _ _ _ _ _ _
   | exact colonnaderef01_Scale.mono _ _ _ _
   | exact colonnaderef02_Show.mono _ _ _ _ _ _
   | exact colonnaderef02_read.mono _ _ _ _
   | exact LeO.none _
   | refine LeO.ite ?_ ?_
   | refine LeO.bind ?_ (fun _ => ?_)
  ·intro y0 y1 y2 y3 y4 y5 y6 y7 y8 y9 y10 y11 y12
   unfold colonnaderef02_Cast.j1
   repeat' first
   | (with_reducible exact ih0 _ _ _ _ _ _ _ _ _ _ _ _ _ _)
   | (with_reducible exact ih1 _ _ _ _ _ _ _ _ _ _ _ _ _)
   | (with_reducible exact colonnaderef01_Scale.mono _ _ _ _)
   | (with_reducible exact colonnaderef02_Show.mono _ _ _ _ _ _)
   | (with_reducible exact colonnaderef02_read.mono _ _ _ _)
   | (with_reducible exact LeO.refl _)
   | (with_reducible exact LeO.none _)
   | (with_reducible refine LeO.ite ?_ ?_)
   | (with_reducible refine LeO.bind ?_ (fun _ => ?_))
   | exact ih0 _ _ _ _ _ _ _ _ _ _ _ _ _ _
   | exact ih1 _ _ _ _ _ _ _ _ _ _ _ _ _
   | exact colonnaderef01_Scale.mono _ _ _ _
   | exact colonnaderef02_Show.mono _ _ _ _ _ _
   | exact colonnaderef02_read.mono _ _ _ _
   | exact LeO.none _
   | refine LeO.ite ?_ ?_
   | refine LeO.bind ?_ (fun _ => ?_)
theorem colonnaderef02_Cast.mono : ∀ a0 a1 a2 a3 a4 a5 a6 k, LeO (colonnaderef02_Cast.f k a0 a1 a2 a3 a4 a5 a6) (colonnaderef02_Cast.f (k + 1) a0 a1 a2 a3 a4 a5 a6) := by
 intro a0 a1 a2 a3 a4 a5 a6 k
 obtain ⟨ih0, ih1⟩ := colonnaderef02_Cast.mono_l k
 unfold colonnaderef02_Cast.f
 repeat' first
   | (with_reducible exact ih0 _ _ _ _ _ _ _ _ _ _ _ _ _ _)
   | (with_reducible exact ih1 _ _ _ _ _ _ _ _ _ _ _ _ _)
   | (with_reducible exact colonnaderef01_Scale.mono _ _ _ _)
   | (with_reducible exact colonnaderef02_Show.mono _ _ _ _ _ _)
   | (with_reducible exact colonnaderef02_read.mono _ _ _ _)
   | (with_reducible exact LeO.refl _)
   | (with_reducible exact LeO.none _)
   | (with_reducible refine LeO.ite ?_ ?_)
   | (with_reducible refine LeO.bind ?_ (fun _ => ?_))
   | exact ih0 _ _ _ _ _ _ _ _ _ _ _ _ _ _
   | exact ih1 _ _ _ _ _ _ _ _ _ _ _ _ _
   | exact colonnaderef01_Scale.mono _ _ _ _
   | exact colonnaderef02_Show.mono _ _ _ _ _ _
   | exact colonnaderef02_read.mono _ _ _ _
   | exact LeO.none _
   | refine LeO.ite ?_ ?_
   | refine LeO.bind ?_ (fun _ => ?_)
def colonnaderef02_Cast.T22 : Bool × List (List Nat × List Nat) := (true, [([], []), ([0], [0]), ([], []), ([2], [2]), ([], []), ([4], [4]), ([1, 3, 5, 3], [1, 3, 5]), ([6], [6]), ([7], [7]), ([7], [7]), ([8, 6, 0, 1, 2, 3, 4, 5, 6, 7, 8], [8]), ([9, 10, 0, 1, 2, 3, 4, 5, 6, 7, 8, 9, 10], [9])])
def colonnaderef02_Cast.B22 : List Nat := [0, 1, 0, 4, 0, 16, 63, 127, 255, 255, 511, 2047]
theorem colonnaderef02_Cast.tab22 : rtab .any (opsOf Tryz.f6 22) = colonnaderef02_Cast.T22 := by kernel_rfl
theorem colonnaderef02_Cast.bits22 : waitsOk colonnaderef02_Cast.T22.2 colonnaderef02_Cast.B22 = true := by kernel_rfl
set_option maxHeartbeats 8000000 in
set_option maxRecDepth 100000 in
theorem colonnaderef02_Cast.calls (k : Nat) (a0_0 : Int) (a0_1 : Int) (a0_2 : Bool) (a0_3 : Int) (a0_4 : ByteArray) (a1_0 : Int) (a1_1 : Int) (r1 : Int) (r2 : Int) (r3 : Bool) (r4 : Int) (r5 : ByteArray) (r6 : Int) (w : World) (h : colonnaderef02_Cast.f k a0_0 a0_1 a0_2 a0_3 a0_4 a1_0 a1_1 = some (r1, r2, r3, r4, r5, r6)) :
  Calls Tryz.prog 6 #[.agg #[.int .i64 a0_0, .int .i64 a0_1, .bool a0_2, .int .i64 a0_3, .string a0_4], .agg #[.int .i64 a1_0, .int .i64 a1_1]] w fun e w' => e = .returned (.tuple #[.agg #[.int .i64 r1, .int .i64 r2, .bool r3, .int .i64 r4, .string r5], .int .i64 r6]) ∧ Below w.heap.size w w' := by
 have hu25 := Tryz.underlying25
 have hu23 := Tryz.underlying23
 have HB := Aside0.mk (Below.refl w.heap.size w)
 have HF_ := Aside0.mk h
 clear h
 go_enter Tryz.func6, Tryz.ntmps6
 go_upto_region 1 with (first | ((with_reducible refine gate_dst (N := 2) rfl ?_); refine box_event ?hg (N := 2) ?hd (cs := #[.int .i64 a0_0, .int .i64 a0_1, .bool a0_2, .int .i64 a0_3, .string a0_4]) (t := 25) ?hr ?_; (case hd => rfl); (case hg => rfl); (case hr => first | (go_simp; done) | (go_simp; rfl)); intro gb304 hg w9 hbox hb; have n0_ := Aside0.mk (below_step zE11_10 hb); have n1_ := Aside0.mk (hbox); have n2_ := Aside0.mk ((by rw [hg]; exact (below_size zE11_10) : w.heap.size ≤ gb304)); have n3_ := Aside0.mk ((by rw [hg]; exact (below_size zE11_10) : w.heap.size ≤ gb304)); clear HB; have HB := n0_; have BK304 := n1_; have GW304 := n2_; have GE304 := n3_; clear n0_ n1_ n2_ n3_; clear hb hbox hg) | ((with_reducible refine gate_dst (N := 3) rfl ?_); refine box_event ?hg (N := 3) ?hd (cs := #[.int .i64 a1_0, .int .i64 a1_1]) (t := 23) ?hr ?_; (case hd => rfl); (case hg => rfl); (case hr => first | (go_simp; done) | (go_simp; rfl)); intro gb305 hg w10 hbox hb; have n0_ := Aside0.mk (blk_below (g := gb304) (o := .cells #[.int .i64 a0_0, .int .i64 a0_1, .bool a0_2, .int .i64 a0_3, .string a0_4] 25 (0, 0)) zE11_2 hb); have n1_ := Aside0.mk (below_step zE11_9 hb); have n2_ := Aside0.mk (hbox); have n3_ := Aside0.mk ((by rw [hg]; exact (below_size zE11_9) : w.heap.size ≤ gb305)); have n4_ := Aside0.mk ((by rw [hg]; exact (below_size zE11_9) : w.heap.size ≤ gb305)); have n5_ := Aside0.mk ((zE11_13 : gb304 ≠ gb305)); have n6_ := Aside0.mk ((zE11_14 : gb305 ≠ gb304)); clear BK304; clear HB; have BK304 := n0_; have HB := n1_; have BK305 := n2_; have GW305 := n3_; have GE305 := n4_; have NB304_305 := n5_; have NB305_304 := n6_; clear n0_ n1_ n2_ n3_ n4_ n5_ n6_; clear hb hbox hg) | ((with_reducible refine gate_dst (N := 4) rfl ?_); refine box_event ?hg (N := 4) ?hd (cs := #[.int .i64 0, .int .i64 0, .bool false, .int .i64 0, .string (⟨#[]⟩ : ByteArray)]) (t := 25) ?hr ?_; (case hd => rfl); (case hg => rfl); (case hr => first | (go_simp; done) | (go_simp; rfl)); intro gb306 hg w11 hbox hb; have n0_ := Aside0.mk (blk_below (g := gb304) (o := .cells #[.int .i64 a0_0, .int .i64 a0_1, .bool a0_2, .int .i64 a0_3, .string a0_4] 25 (0, 0)) zE11_2 hb); have n1_ := Aside0.mk (blk_below (g := gb305) (o := .cells #[.int .i64 a1_0, .int .i64 a1_1] 23 (0, 0)) zE11_4 hb); have n2_ := Aside0.mk (below_step zE11_7 hb); have n3_ := Aside0.mk (hbox); have n4_ := Aside0.mk ((by rw [hg]; exact (below_size zE11_7) : w.heap.size ≤ gb306)); have n5_ := Aside0.mk ((by rw [hg]; exact (below_size zE11_7) : w.heap.size ≤ gb306)); have n6_ := Aside0.mk ((zE11_13 : gb304 ≠ gb306)); have n7_ := Aside0.mk ((zE11_14 : gb306 ≠ gb304)); have n8_ := Aside0.mk ((zE11_15 : gb305 ≠ gb306)); have n9_ := Aside0.mk ((zE11_16 : gb306 ≠ gb305)); clear BK304; clear BK305; clear HB; have BK304 := n0_; have BK305 := n1_; have HB := n2_; have BK306 := n3_; have GW306 := n4_; have GE306 := n5_; have NB304_306 := n6_; have NB306_304 := n7_; have NB305_306 := n8_; have NB306_305 := n9_; clear n0_ n1_ n2_ n3_ n4_ n5_ n6_ n7_ n8_ n9_; clear hb hbox hg; have hnb12 := NB305_304.out; have hnc12 := NB304_305.out; have hnb13 := NB305_306.out; have hnc13 := NB306_305.out; have hcz14_0 : w11.cell? ⟨gb305, 0, none⟩ = some (.int .i64 a1_0) := (blk_cell BK305.out 0).trans rfl; have hcz14_1 : w11.cell? ⟨gb305, 1, none⟩ = some (.int .i64 a1_1) := (blk_cell BK305.out 1).trans rfl; have hfz14_0 := blk_frozen BK305.out 0; have hfz14_1 := blk_frozen BK305.out 1))
 (try simp only [Act.put, List.setIfInBounds_toArray, List.set_cons_zero, List.set_cons_succ])
 have h := HF_.out
 clear HF_
 have H : ((colonnaderef02_CheckType.f a1_0 a1_1).bind fun t307 => (if t307 = 0 then ((colonnaderef02_way.f a0_0 a1_0).bind fun t308 => (if t308 = true then (if a0_2 = true then ((colonnaderef02_None.f a1_0 a1_1).bind fun bt309 => (some (bt309.1, bt309.2.1, bt309.2.2.1, bt309.2.2.2.1, bt309.2.2.2.2, 0))) else (if a1_0 = 4 then (if a0_0 = 4 then (if (a0_4.size : Int) > 256 then (some (0, 0, false, 0, (⟨#[]⟩ : ByteArray), 10)) else ((colonnaderef02_OfText.f a0_4).bind fun bt314 => (some (bt314.1, bt314.2.1, bt314.2.2.1, bt314.2.2.2.1, bt314.2.2.2.2, 0)))) else ((colonnaderef02_Show.f k a0_0 a0_1 a0_2 a0_3 a0_4).bind fun t319 => (if (t319.size : Int) > 256 then (some (0, 0, false, 0, (⟨#[]⟩ : ByteArray), 10)) else ((colonnaderef02_OfText.f t319).bind fun bt320 => (some (bt320.1, bt320.2.1, bt320.2.2.1, bt320.2.2.2.1, bt320.2.2.2.2, 0)))))) else (if a0_0 = 4 then ((colonnaderef02_read.f k a0_4 a1_0 a1_1).bind fun bt325 => (some (bt325.1, bt325.2.1, bt325.2.2.1, bt325.2.2.2.1, bt325.2.2.2.2.1, bt325.2.2.2.2.2))) else (if a0_0 = 3 then (colonnaderef02_Cast.j0 k a0_0 true a0_0 a0_1 a0_2 a0_3 a0_4 a1_0 a1_1 a1_0 a1_1 false a0_3 (⟨#[]⟩ : ByteArray)) else (colonnaderef02_Cast.j0 k a0_0 (a1_0 == 3) a0_0 a0_1 a0_2 a0_3 a0_4 a1_0 a1_1 a1_0 a1_1 false a0_3 (⟨#[]⟩ : ByteArray)))))) else (some (0, 0, false, 0, (⟨#[]⟩ : ByteArray), 21)))) else (some (0, 0, false, 0, (⟨#[]⟩ : ByteArray), t307)))) = some (r1, r2, r3, r4, r5, r6) := h
 clear h
 replace H := Option.bind_eq_some_iff.mp H
 obtain ⟨t307, A30, H⟩ := H
 replace H : (if t307 = 0 then ((colonnaderef02_way.f a0_0 a1_0).bind fun t308 => (if t308 = true then (if a0_2 = true then ((colonnaderef02_None.f a1_0 a1_1).bind fun bt309 => (some (bt309.1, bt309.2.1, bt309.2.2.1, bt309.2.2.2.1, bt309.2.2.2.2, 0))) else (if a1_0 = 4 then (if a0_0 = 4 then (if (a0_4.size : Int) > 256 then (some (0, 0, false, 0, (⟨#[]⟩ : ByteArray), 10)) else ((colonnaderef02_OfText.f a0_4).bind fun bt314 => (some (bt314.1, bt314.2.1, bt314.2.2.1, bt314.2.2.2.1, bt314.2.2.2.2, 0)))) else ((colonnaderef02_Show.f k a0_0 a0_1 a0_2 a0_3 a0_4).bind fun t319 => (if (t319.size : Int) > 256 then (some (0, 0, false, 0, (⟨#[]⟩ : ByteArray), 10)) else ((colonnaderef02_OfText.f t319).bind fun bt320 => (some (bt320.1, bt320.2.1, bt320.2.2.1, bt320.2.2.2.1, bt320.2.2.2.2, 0)))))) else (if a0_0 = 4 then ((colonnaderef02_read.f k a0_4 a1_0 a1_1).bind fun bt325 => (some (bt325.1, bt325.2.1, bt325.2.2.1, bt325.2.2.2.1, bt325.2.2.2.2.1, bt325.2.2.2.2.2))) else (if a0_0 = 3 then (colonnaderef02_Cast.j0 k a0_0 true a0_0 a0_1 a0_2 a0_3 a0_4 a1_0 a1_1 a1_0 a1_1 false a0_3 (⟨#[]⟩ : ByteArray)) else (colonnaderef02_Cast.j0 k a0_0 (a1_0 == 3) a0_0 a0_1 a0_2 a0_3 a0_4 a1_0 a1_1 a1_0 a1_1 false a0_3 (⟨#[]⟩ : ByteArray)))))) else (some (0, 0, false, 0, (⟨#[]⟩ : ByteArray), 21)))) else (some (0, 0, false, 0, (⟨#[]⟩ : ByteArray), t307))) = some (r1, r2, r3, r4, r5, r6) := H
 have A3 := Aside0.mk A30
 clear A30
 by_cases c4 : t307 = 0
 ·rw [if_pos c4] at H
  have c4b0 : (t307 == 0) = true := beq_iff_eq.mpr c4
  have c4b1 : (t307 != 0) = false := bne_eq_false_iff_eq.mpr c4
  clear c4
  replace H := Option.bind_eq_some_iff.mp H
  obtain ⟨t308, A50, H⟩ := H
  replace H : (if t308 = true then (if a0_2 = true then ((colonnaderef02_None.f a1_0 a1_1).bind fun bt309 => (some (bt309.1, bt309.2.1, bt309.2.2.1, bt309.2.2.2.1, bt309.2.2.2.2, 0))) else (if a1_0 = 4 then (if a0_0 = 4 then (if (a0_4.size : Int) > 256 then (some (0, 0, false, 0, (⟨#[]⟩ : ByteArray), 10)) else ((colonnaderef02_OfText.f a0_4).bind fun bt314 => (some (bt314.1, bt314.2.1, bt314.2.2.1, bt314.2.2.2.1, bt314.2.2.2.2, 0)))) else ((colonnaderef02_Show.f k a0_0 a0_1 a0_2 a0_3 a0_4).bind fun t319 => (if (t319.size : Int) > 256 then (some (0, 0, false, 0, (⟨#[]⟩ : ByteArray), 10)) else ((colonnaderef02_OfText.f t319).bind fun bt320 => (some (bt320.1, bt320.2.1, bt320.2.2.1, bt320.2.2.2.1, bt320.2.2.2.2, 0)))))) else (if a0_0 = 4 then ((colonnaderef02_read.f k a0_4 a1_0 a1_1).bind fun bt325 => (some (bt325.1, bt325.2.1, bt325.2.2.1, bt325.2.2.2.1, bt325.2.2.2.2.1, bt325.2.2.2.2.2))) else (if a0_0 = 3 then (colonnaderef02_Cast.j0 k a0_0 true a0_0 a0_1 a0_2 a0_3 a0_4 a1_0 a1_1 a1_0 a1_1 false a0_3 (⟨#[]⟩ : ByteArray)) else (colonnaderef02_Cast.j0 k a0_0 (a1_0 == 3) a0_0 a0_1 a0_2 a0_3 a0_4 a1_0 a1_1 a1_0 a1_1 false a0_3 (⟨#[]⟩ : ByteArray)))))) else (some (0, 0, false, 0, (⟨#[]⟩ : ByteArray), 21))) = some (r1, r2, r3, r4, r5, r6) := H
  have A5 := Aside0.mk A50
  clear A50
  by_cases c6 : t308 = true
  ·subst c6
   have H1 : (if a0_2 = true then ((colonnaderef02_None.f a1_0 a1_1).bind fun bt309 => (some (bt309.1, bt309.2.1, bt309.2.2.1, bt309.2.2.2.1, bt309.2.2.2.2, 0))) else (if a1_0 = 4 then (if a0_0 = 4 then (if (a0_4.size : Int) > 256 then (some (0, 0, false, 0, (⟨#[]⟩ : ByteArray), 10)) else ((colonnaderef02_OfText.f a0_4).bind fun bt314 => (some (bt314.1, bt314.2.1, bt314.2.2.1, bt314.2.2.2.1, bt314.2.2.2.2, 0)))) else ((colonnaderef02_Show.f k a0_0 a0_1 a0_2 a0_3 a0_4).bind fun t319 => (if (t319.size : Int) > 256 then (some (0, 0, false, 0, (⟨#[]⟩ : ByteArray), 10)) else ((colonnaderef02_OfText.f t319).bind fun bt320 => (some (bt320.1, bt320.2.1, bt320.2.2.1, bt320.2.2.2.1, bt320.2.2.2.2, 0)))))) else (if a0_0 = 4 then ((colonnaderef02_read.f k a0_4 a1_0 a1_1).bind fun bt325 => (some (bt325.1, bt325.2.1, bt325.2.2.1, bt325.2.2.2.1, bt325.2.2.2.2.1, bt325.2.2.2.2.2))) else (if a0_0 = 3 then (colonnaderef02_Cast.j0 k a0_0 true a0_0 a0_1 a0_2 a0_3 a0_4 a1_0 a1_1 a1_0 a1_1 false a0_3 (⟨#[]⟩ : ByteArray)) else (colonnaderef02_Cast.j0 k a0_0 (a1_0 == 3) a0_0 a0_1 a0_2 a0_3 a0_4 a1_0 a1_1 a1_0 a1_1 false a0_3 (⟨#[]⟩ : ByteArray)))))) = some (r1, r2, r3, r4, r5, r6) := by rw [if_pos rfl] at H; exact H
   clear H
   have H := H1
   clear H1
   by_cases c7 : a0_2 = true
   ·subst c7
    have H1 : ((colonnaderef02_None.f a1_0 a1_1).bind fun bt309 => (some (bt309.1, bt309.2.1, bt309.2.2.1, bt309.2.2.2.1, bt309.2.2.2.2, 0))) = some (r1, r2, r3, r4, r5, r6) := by rw [if_pos rfl] at H; exact H
    clear H
    have H := H1
    clear H1
    replace H := Option.bind_eq_some_iff.mp H
    obtain ⟨⟨t309, t310, t311, t312, t313⟩, A80, H⟩ := H
    replace H : (some (t309, t310, t311, t312, t313, 0)) = some (r1, r2, r3, r4, r5, r6) := H
    have A8 := Aside0.mk A80
    clear A80
    simp only [Option.some.injEq, Prod.mk.injEq] at H
    obtain ⟨rfl, rfl, rfl, rfl, rfl, rfl⟩ := H
    go_wp2_with (first | ((with_reducible refine gate_callee (f := 17) rfl ?_); refine goesL_ (some 13) rfl rfl Tryz.func17 zE11_6 rfl #[.agg #[.int .i64 a1_0, .int .i64 a1_1]] rfl zE11_3 ?_; (with_reducible refine (colonnaderef02_CheckType.calls a1_0 a1_1 t307 _ A3.out).mono ?_); rintro e w15 ⟨rfl, hb⟩; refine ⟨_, rfl, ?_⟩; have n0_ := Aside0.mk (blk_below (g := gb304) (o := .cells #[.int .i64 a0_0, .int .i64 a0_1, .bool true, .int .i64 a0_3, .string a0_4] 25 (0, 0)) zE11_2 hb); have n1_ := Aside0.mk (blk_below (g := gb305) (o := .cells #[.int .i64 a1_0, .int .i64 a1_1] 23 (0, 0)) zE11_4 hb); have n2_ := Aside0.mk (blk_below (g := gb306) (o := .cells #[.int .i64 0, .int .i64 0, .bool false, .int .i64 0, .string (⟨#[]⟩ : ByteArray)] 25 (0, 0)) zE11_5 hb); have n3_ := Aside0.mk (below_step zE11_1 hb); clear BK304; clear BK305; clear BK306; clear HB; have BK304 := n0_; have BK305 := n1_; have BK306 := n2_; have HB := n3_; clear n0_ n1_ n2_ n3_; (try clear hb); (try clear hb2); (try clear hk); (try clear hi); have hnb16 := NB304_306.out; have hnc16 := NB306_304.out; have hcz17_0 : w15.cell? ⟨gb304, 0, none⟩ = some (.int .i64 a0_0) := (blk_cell BK304.out 0).trans rfl; have hcz17_1 : w15.cell? ⟨gb304, 1, none⟩ = some (.int .i64 a0_1) := (blk_cell BK304.out 1).trans rfl; have hcz17_2 : w15.cell? ⟨gb304, 2, none⟩ = some (.bool true) := (blk_cell BK304.out 2).trans rfl; have hcz17_3 : w15.cell? ⟨gb304, 3, none⟩ = some (.int .i64 a0_3) := (blk_cell BK304.out 3).trans rfl; have hcz17_4 : w15.cell? ⟨gb304, 4, none⟩ = some (.string a0_4) := (blk_cell BK304.out 4).trans rfl; have hfz17_0 := blk_frozen BK304.out 0; have hfz17_1 := blk_frozen BK304.out 1; have hfz17_2 := blk_frozen BK304.out 2; have hfz17_3 := blk_frozen BK304.out 3; have hfz17_4 := blk_frozen BK304.out 4; have hcz18_0 : w15.cell? ⟨gb305, 0, none⟩ = some (.int .i64 a1_0) := (blk_cell BK305.out 0).trans rfl; have hcz18_1 : w15.cell? ⟨gb305, 1, none⟩ = some (.int .i64 a1_1) := (blk_cell BK305.out 1).trans rfl; have hfz18_0 := blk_frozen BK305.out 0; have hfz18_1 := blk_frozen BK305.out 1) | ((with_reducible refine gate_callee (f := 18) rfl ?_); refine goesL_ (some 24) rfl rfl Tryz.func18 zE11_6 rfl #[.int .i64 a0_0, .int .i64 a1_0] rfl zE11_3 ?_; (with_reducible refine (colonnaderef02_way.calls a0_0 a1_0 true _ A5.out).mono ?_); rintro e w' ⟨rfl, ⟨nd, rfl⟩⟩; refine ⟨_, rfl, ?_⟩; (try (rw [drewN_self w15]; generalize hq_ : World.drewN w15 _ = w15; have n0_ : Aside0 (w15.heap[gb304]? = some (.cells #[.int .i64 a0_0, .int .i64 a0_1, .bool true, .int .i64 a0_3, .string a0_4] 25 (0, 0))) := ⟨by rw [← hq_]; exact zE11_2⟩; have n1_ : Aside0 (w15.heap[gb305]? = some (.cells #[.int .i64 a1_0, .int .i64 a1_1] 23 (0, 0))) := ⟨by rw [← hq_]; exact zE11_4⟩; have n2_ : Aside0 (w15.heap[gb306]? = some (.cells #[.int .i64 0, .int .i64 0, .bool false, .int .i64 0, .string (⟨#[]⟩ : ByteArray)] 25 (0, 0))) := ⟨by rw [← hq_]; exact zE11_5⟩; have n3_ : Aside0 (Below w.heap.size w w15) := ⟨by rw [← hq_]; exact zE11_1⟩; clear BK304 BK305 BK306 HB hq_; have BK304 := n0_; have BK305 := n1_; have BK306 := n2_; have HB := n3_; clear n0_ n1_ n2_ n3_; have hcy304_0 : w15.cell? ⟨gb304, 0, none⟩ = some (.int .i64 a0_0) := (blk_cell BK304.out 0).trans rfl; have hfy304_0 := blk_frozen BK304.out 0; have hcy304_1 : w15.cell? ⟨gb304, 1, none⟩ = some (.int .i64 a0_1) := (blk_cell BK304.out 1).trans rfl; have hfy304_1 := blk_frozen BK304.out 1; have hcy304_2 : w15.cell? ⟨gb304, 2, none⟩ = some (.bool true) := (blk_cell BK304.out 2).trans rfl; have hfy304_2 := blk_frozen BK304.out 2; have hcy304_3 : w15.cell? ⟨gb304, 3, none⟩ = some (.int .i64 a0_3) := (blk_cell BK304.out 3).trans rfl; have hfy304_3 := blk_frozen BK304.out 3; have hcy304_4 : w15.cell? ⟨gb304, 4, none⟩ = some (.string a0_4) := (blk_cell BK304.out 4).trans rfl; have hfy304_4 := blk_frozen BK304.out 4; have hcy305_0 : w15.cell? ⟨gb305, 0, none⟩ = some (.int .i64 a1_0) := (blk_cell BK305.out 0).trans rfl; have hfy305_0 := blk_frozen BK305.out 0; have hcy305_1 : w15.cell? ⟨gb305, 1, none⟩ = some (.int .i64 a1_1) := (blk_cell BK305.out 1).trans rfl; have hfy305_1 := blk_frozen BK305.out 1; have hcy306_0 : w15.cell? ⟨gb306, 0, none⟩ = some (.int .i64 0) := (blk_cell BK306.out 0).trans rfl; have hfy306_0 := blk_frozen BK306.out 0; have hcy306_1 : w15.cell? ⟨gb306, 1, none⟩ = some (.int .i64 0) := (blk_cell BK306.out 1).trans rfl; have hfy306_1 := blk_frozen BK306.out 1; have hcy306_2 : w15.cell? ⟨gb306, 2, none⟩ = some (.bool false) := (blk_cell BK306.out 2).trans rfl; have hfy306_2 := blk_frozen BK306.out 2; have hcy306_3 : w15.cell? ⟨gb306, 3, none⟩ = some (.int .i64 0) := (blk_cell BK306.out 3).trans rfl; have hfy306_3 := blk_frozen BK306.out 3; have hcy306_4 : w15.cell? ⟨gb306, 4, none⟩ = some (.string (⟨#[]⟩ : ByteArray)) := (blk_cell BK306.out 4).trans rfl; have hfy306_4 := blk_frozen BK306.out 4))) | ((with_reducible refine gate_callee (f := 19) rfl ?_); refine goesL_ (some 30) rfl rfl Tryz.func19 zE11_6 rfl #[.agg #[.int .i64 a1_0, .int .i64 a1_1]] rfl zE11_3 ?_; (with_reducible refine (colonnaderef02_None.calls a1_0 a1_1 t309 t310 t311 t312 t313 _ A8.out).mono ?_); rintro e w19 ⟨rfl, hb⟩; refine ⟨_, rfl, ?_⟩; have n0_ := Aside0.mk (blk_below (g := gb304) (o := .cells #[.int .i64 a0_0, .int .i64 a0_1, .bool true, .int .i64 a0_3, .string a0_4] 25 (0, 0)) zE11_2 hb); have n1_ := Aside0.mk (blk_below (g := gb305) (o := .cells #[.int .i64 a1_0, .int .i64 a1_1] 23 (0, 0)) zE11_4 hb); have n2_ := Aside0.mk (blk_below (g := gb306) (o := .cells #[.int .i64 0, .int .i64 0, .bool false, .int .i64 0, .string (⟨#[]⟩ : ByteArray)] 25 (0, 0)) zE11_5 hb); have n3_ := Aside0.mk (below_step zE11_1 hb); clear BK304; clear BK305; clear BK306; clear HB; have BK304 := n0_; have BK305 := n1_; have BK306 := n2_; have HB := n3_; clear n0_ n1_ n2_ n3_; (try clear hb); (try clear hb2); (try clear hk); (try clear hi); have hcz20_0 : w19.cell? ⟨gb306, 0, none⟩ = some (.int .i64 0) := (blk_cell BK306.out 0).trans rfl; have hcz20_1 : w19.cell? ⟨gb306, 1, none⟩ = some (.int .i64 0) := (blk_cell BK306.out 1).trans rfl; have hcz20_2 : w19.cell? ⟨gb306, 2, none⟩ = some (.bool false) := (blk_cell BK306.out 2).trans rfl; have hcz20_3 : w19.cell? ⟨gb306, 3, none⟩ = some (.int .i64 0) := (blk_cell BK306.out 3).trans rfl; have hcz20_4 : w19.cell? ⟨gb306, 4, none⟩ = some (.string (⟨#[]⟩ : ByteArray)) := (blk_cell BK306.out 4).trans rfl; have hfz20_0 := blk_frozen BK306.out 0; have hfz20_1 := blk_frozen BK306.out 1; have hfz20_2 := blk_frozen BK306.out 2; have hfz20_3 := blk_frozen BK306.out 3; have hfz20_4 := blk_frozen BK306.out 4))
    refine bodyPost_ret (results_ct rfl _ _ gb306 25 #[.int .i64 t309, .int .i64 t310, .bool t311, .int .i64 t312, .string t313] (0, 0) _ rfl (by (with_reducible repeat (first | refine blk_drewN ?_ _ | refine blk_drew ?_ | refine blk_alloc ?_ _)); refine blk_put (cs := #[.int .i64 t309, .int .i64 t310, .bool t311, .int .i64 t312, .string (⟨#[]⟩ : ByteArray)]) ?_ 4 _ rfl; (with_reducible repeat (first | refine blk_drewN ?_ _ | refine blk_drew ?_ | refine blk_alloc ?_ _)); refine blk_put (cs := #[.int .i64 t309, .int .i64 t310, .bool t311, .int .i64 0, .string (⟨#[]⟩ : ByteArray)]) ?_ 3 _ rfl; (with_reducible repeat (first | refine blk_drewN ?_ _ | refine blk_drew ?_ | refine blk_alloc ?_ _)); refine blk_put (cs := #[.int .i64 t309, .int .i64 t310, .bool false, .int .i64 0, .string (⟨#[]⟩ : ByteArray)]) ?_ 2 _ rfl; (with_reducible repeat (first | refine blk_drewN ?_ _ | refine blk_drew ?_ | refine blk_alloc ?_ _)); refine blk_put (cs := #[.int .i64 t309, .int .i64 0, .bool false, .int .i64 0, .string (⟨#[]⟩ : ByteArray)]) ?_ 1 _ rfl; (with_reducible repeat (first | refine blk_drewN ?_ _ | refine blk_drew ?_ | refine blk_alloc ?_ _)); refine blk_put (cs := #[.int .i64 0, .int .i64 0, .bool false, .int .i64 0, .string (⟨#[]⟩ : ByteArray)]) ?_ 0 _ rfl; (with_reducible repeat (first | refine blk_drewN ?_ _ | refine blk_drew ?_ | refine blk_alloc ?_ _)); exact BK306.out) Tryz.underlying25 rfl zE11_6) rfl ?_
    exact ⟨by first | rfl | (simp [errW_none, errW_some] <;> rfl) | (simp [*, errW_none, errW_some] <;> rfl), by repeat (first | (with_reducible first | exact HB.out | apply below_alloc | apply pw_below_drewN | apply below_drew1 | refine below_set ?_ GE304.out | refine below_set ?_ GE305.out | refine below_set ?_ GE306.out) | exact HB.out)⟩
   ·replace c7 := Bool.eq_false_iff.mpr c7
    subst c7
    have H1 : (if a1_0 = 4 then (if a0_0 = 4 then (if (a0_4.size : Int) > 256 then (some (0, 0, false, 0, (⟨#[]⟩ : ByteArray), 10)) else ((colonnaderef02_OfText.f a0_4).bind fun bt314 => (some (bt314.1, bt314.2.1, bt314.2.2.1, bt314.2.2.2.1, bt314.2.2.2.2, 0)))) else ((colonnaderef02_Show.f k a0_0 a0_1 false a0_3 a0_4).bind fun t319 => (if (t319.size : Int) > 256 then (some (0, 0, false, 0, (⟨#[]⟩ : ByteArray), 10)) else ((colonnaderef02_OfText.f t319).bind fun bt320 => (some (bt320.1, bt320.2.1, bt320.2.2.1, bt320.2.2.2.1, bt320.2.2.2.2, 0)))))) else (if a0_0 = 4 then ((colonnaderef02_read.f k a0_4 a1_0 a1_1).bind fun bt325 => (some (bt325.1, bt325.2.1, bt325.2.2.1, bt325.2.2.2.1, bt325.2.2.2.2.1, bt325.2.2.2.2.2))) else (if a0_0 = 3 then (colonnaderef02_Cast.j0 k a0_0 true a0_0 a0_1 false a0_3 a0_4 a1_0 a1_1 a1_0 a1_1 false a0_3 (⟨#[]⟩ : ByteArray)) else (colonnaderef02_Cast.j0 k a0_0 (a1_0 == 3) a0_0 a0_1 false a0_3 a0_4 a1_0 a1_1 a1_0 a1_1 false a0_3 (⟨#[]⟩ : ByteArray))))) = some (r1, r2, r3, r4, r5, r6) := by rw [if_neg (show ¬ (false = true) by decide)] at H; exact H
    clear H
    have H := H1
    clear H1
    by_cases c21 : a1_0 = 4
    ·rw [if_pos c21] at H
     have c21b0 : (a1_0 == 4) = true := beq_iff_eq.mpr c21
     have c21b1 : (a1_0 != 4) = false := bne_eq_false_iff_eq.mpr c21
     clear c21
     by_cases c22 : a0_0 = 4
     ·rw [if_pos c22] at H
      have c22b0 : (a0_0 == 4) = true := beq_iff_eq.mpr c22
      have c22b1 : (a0_0 != 4) = false := bne_eq_false_iff_eq.mpr c22
      clear c22
      by_cases c23 : (a0_4.size : Int) > 256
      ·rw [if_pos c23] at H
       have c23b0 : decide (256 < (a0_4.size : Int)) = true := decide_eq_true c23
       have c23b1 : decide (256 < a0_4.size) = true := decide_eq_true (by omega)
       clear c23
       simp only [Option.some.injEq, Prod.mk.injEq] at H
       obtain ⟨rfl, rfl, rfl, rfl, rfl, rfl⟩ := H
       go_wp2_with (first | ((with_reducible refine gate_callee (f := 17) rfl ?_); refine goesL_ (some 13) rfl rfl Tryz.func17 zE11_6 rfl #[.agg #[.int .i64 a1_0, .int .i64 a1_1]] rfl zE11_3 ?_; (with_reducible refine (colonnaderef02_CheckType.calls a1_0 a1_1 t307 _ A3.out).mono ?_); rintro e w30 ⟨rfl, hb⟩; refine ⟨_, rfl, ?_⟩; have n0_ := Aside0.mk (blk_below (g := gb304) (o := .cells #[.int .i64 a0_0, .int .i64 a0_1, .bool false, .int .i64 a0_3, .string a0_4] 25 (0, 0)) zE11_2 hb); have n1_ := Aside0.mk (blk_below (g := gb305) (o := .cells #[.int .i64 a1_0, .int .i64 a1_1] 23 (0, 0)) zE11_4 hb); have n2_ := Aside0.mk (blk_below (g := gb306) (o := .cells #[.int .i64 0, .int .i64 0, .bool false, .int .i64 0, .string (⟨#[]⟩ : ByteArray)] 25 (0, 0)) zE11_5 hb); have n3_ := Aside0.mk (below_step zE11_1 hb); clear BK304; clear BK305; clear BK306; clear HB; have BK304 := n0_; have BK305 := n1_; have BK306 := n2_; have HB := n3_; clear n0_ n1_ n2_ n3_; (try clear hb); (try clear hb2); (try clear hk); (try clear hi); have hnb31 := NB304_306.out; have hnc31 := NB306_304.out; have hcz32_0 : w30.cell? ⟨gb304, 0, none⟩ = some (.int .i64 a0_0) := (blk_cell BK304.out 0).trans rfl; have hcz32_1 : w30.cell? ⟨gb304, 1, none⟩ = some (.int .i64 a0_1) := (blk_cell BK304.out 1).trans rfl; have hcz32_2 : w30.cell? ⟨gb304, 2, none⟩ = some (.bool false) := (blk_cell BK304.out 2).trans rfl; have hcz32_3 : w30.cell? ⟨gb304, 3, none⟩ = some (.int .i64 a0_3) := (blk_cell BK304.out 3).trans rfl; have hcz32_4 : w30.cell? ⟨gb304, 4, none⟩ = some (.string a0_4) := (blk_cell BK304.out 4).trans rfl; have hfz32_0 := blk_frozen BK304.out 0; have hfz32_1 := blk_frozen BK304.out 1; have hfz32_2 := blk_frozen BK304.out 2; have hfz32_3 := blk_frozen BK304.out 3; have hfz32_4 := blk_frozen BK304.out 4; have hcz33_0 : w30.cell? ⟨gb305, 0, none⟩ = some (.int .i64 a1_0) := (blk_cell BK305.out 0).trans rfl; have hcz33_1 : w30.cell? ⟨gb305, 1, none⟩ = some (.int .i64 a1_1) := (blk_cell BK305.out 1).trans rfl; have hfz33_0 := blk_frozen BK305.out 0; have hfz33_1 := blk_frozen BK305.out 1) | ((with_reducible refine gate_callee (f := 18) rfl ?_); refine goesL_ (some 24) rfl rfl Tryz.func18 zE11_6 rfl #[.int .i64 a0_0, .int .i64 a1_0] rfl zE11_3 ?_; (with_reducible refine (colonnaderef02_way.calls a0_0 a1_0 true _ A5.out).mono ?_); rintro e w' ⟨rfl, ⟨nd, rfl⟩⟩; refine ⟨_, rfl, ?_⟩; (try (rw [drewN_self w30]; generalize hq_ : World.drewN w30 _ = w30; have n0_ : Aside0 (w30.heap[gb304]? = some (.cells #[.int .i64 a0_0, .int .i64 a0_1, .bool false, .int .i64 a0_3, .string a0_4] 25 (0, 0))) := ⟨by rw [← hq_]; exact zE11_2⟩; have n1_ : Aside0 (w30.heap[gb305]? = some (.cells #[.int .i64 a1_0, .int .i64 a1_1] 23 (0, 0))) := ⟨by rw [← hq_]; exact zE11_4⟩; have n2_ : Aside0 (w30.heap[gb306]? = some (.cells #[.int .i64 0, .int .i64 0, .bool false, .int .i64 0, .string (⟨#[]⟩ : ByteArray)] 25 (0, 0))) := ⟨by rw [← hq_]; exact zE11_5⟩; have n3_ : Aside0 (Below w.heap.size w w30) := ⟨by rw [← hq_]; exact zE11_1⟩; clear BK304 BK305 BK306 HB hq_; have BK304 := n0_; have BK305 := n1_; have BK306 := n2_; have HB := n3_; clear n0_ n1_ n2_ n3_; have hcy304_0 : w30.cell? ⟨gb304, 0, none⟩ = some (.int .i64 a0_0) := (blk_cell BK304.out 0).trans rfl; have hfy304_0 := blk_frozen BK304.out 0; have hcy304_1 : w30.cell? ⟨gb304, 1, none⟩ = some (.int .i64 a0_1) := (blk_cell BK304.out 1).trans rfl; have hfy304_1 := blk_frozen BK304.out 1; have hcy304_2 : w30.cell? ⟨gb304, 2, none⟩ = some (.bool false) := (blk_cell BK304.out 2).trans rfl; have hfy304_2 := blk_frozen BK304.out 2; have hcy304_3 : w30.cell? ⟨gb304, 3, none⟩ = some (.int .i64 a0_3) := (blk_cell BK304.out 3).trans rfl; have hfy304_3 := blk_frozen BK304.out 3; have hcy304_4 : w30.cell? ⟨gb304, 4, none⟩ = some (.string a0_4) := (blk_cell BK304.out 4).trans rfl; have hfy304_4 := blk_frozen BK304.out 4; have hcy305_0 : w30.cell? ⟨gb305, 0, none⟩ = some (.int .i64 a1_0) := (blk_cell BK305.out 0).trans rfl; have hfy305_0 := blk_frozen BK305.out 0; have hcy305_1 : w30.cell? ⟨gb305, 1, none⟩ = some (.int .i64 a1_1) := (blk_cell BK305.out 1).trans rfl; have hfy305_1 := blk_frozen BK305.out 1; have hcy306_0 : w30.cell? ⟨gb306, 0, none⟩ = some (.int .i64 0) := (blk_cell BK306.out 0).trans rfl; have hfy306_0 := blk_frozen BK306.out 0; have hcy306_1 : w30.cell? ⟨gb306, 1, none⟩ = some (.int .i64 0) := (blk_cell BK306.out 1).trans rfl; have hfy306_1 := blk_frozen BK306.out 1; have hcy306_2 : w30.cell? ⟨gb306, 2, none⟩ = some (.bool false) := (blk_cell BK306.out 2).trans rfl; have hfy306_2 := blk_frozen BK306.out 2; have hcy306_3 : w30.cell? ⟨gb306, 3, none⟩ = some (.int .i64 0) := (blk_cell BK306.out 3).trans rfl; have hfy306_3 := blk_frozen BK306.out 3; have hcy306_4 : w30.cell? ⟨gb306, 4, none⟩ = some (.string (⟨#[]⟩ : ByteArray)) := (blk_cell BK306.out 4).trans rfl; have hfy306_4 := blk_frozen BK306.out 4)); have hcz34_0 : w30.cell? ⟨gb306, 0, none⟩ = some (.int .i64 0) := (blk_cell BK306.out 0).trans rfl; have hcz34_1 : w30.cell? ⟨gb306, 1, none⟩ = some (.int .i64 0) := (blk_cell BK306.out 1).trans rfl; have hcz34_2 : w30.cell? ⟨gb306, 2, none⟩ = some (.bool false) := (blk_cell BK306.out 2).trans rfl; have hcz34_3 : w30.cell? ⟨gb306, 3, none⟩ = some (.int .i64 0) := (blk_cell BK306.out 3).trans rfl; have hcz34_4 : w30.cell? ⟨gb306, 4, none⟩ = some (.string (⟨#[]⟩ : ByteArray)) := (blk_cell BK306.out 4).trans rfl; have hfz34_0 := blk_frozen BK306.out 0; have hfz34_1 := blk_frozen BK306.out 1; have hfz34_2 := blk_frozen BK306.out 2; have hfz34_3 := blk_frozen BK306.out 3; have hfz34_4 := blk_frozen BK306.out 4))
       refine bodyPost_ret (results_ct rfl _ _ gb306 25 #[.int .i64 0, .int .i64 0, .bool false, .int .i64 0, .string (⟨#[]⟩ : ByteArray)] (0, 0) _ rfl zE11_0 Tryz.underlying25 rfl zE11_6) rfl ?_
       exact ⟨by first | rfl | (simp [errW_none, errW_some] <;> rfl) | (simp [*, errW_none, errW_some] <;> rfl), by repeat (first | (with_reducible first | exact HB.out | apply below_alloc | apply pw_below_drewN | apply below_drew1 | refine below_set ?_ GE304.out | refine below_set ?_ GE305.out | refine below_set ?_ GE306.out) | exact HB.out)⟩
      ·rw [if_neg c23] at H
       have c23b0 : decide (256 < (a0_4.size : Int)) = false := decide_eq_false c23
       have c23b1 : decide (256 < a0_4.size) = false := decide_eq_false (by omega)
       clear c23
       replace H := Option.bind_eq_some_iff.mp H
       obtain ⟨⟨t314, t315, t316, t317, t318⟩, A350, H⟩ := H
       replace H : (some (t314, t315, t316, t317, t318, 0)) = some (r1, r2, r3, r4, r5, r6) := H
       have A35 := Aside0.mk A350
       clear A350
       simp only [Option.some.injEq, Prod.mk.injEq] at H
       obtain ⟨rfl, rfl, rfl, rfl, rfl, rfl⟩ := H
       go_wp2_with (first | ((with_reducible refine gate_callee (f := 17) rfl ?_); refine goesL_ (some 13) rfl rfl Tryz.func17 zE11_6 rfl #[.agg #[.int .i64 a1_0, .int .i64 a1_1]] rfl zE11_3 ?_; (with_reducible refine (colonnaderef02_CheckType.calls a1_0 a1_1 t307 _ A3.out).mono ?_); rintro e w42 ⟨rfl, hb⟩; refine ⟨_, rfl, ?_⟩; have n0_ := Aside0.mk (blk_below (g := gb304) (o := .cells #[.int .i64 a0_0, .int .i64 a0_1, .bool false, .int .i64 a0_3, .string a0_4] 25 (0, 0)) zE11_2 hb); have n1_ := Aside0.mk (blk_below (g := gb305) (o := .cells #[.int .i64 a1_0, .int .i64 a1_1] 23 (0, 0)) zE11_4 hb); have n2_ := Aside0.mk (blk_below (g := gb306) (o := .cells #[.int .i64 0, .int .i64 0, .bool false, .int .i64 0, .string (⟨#[]⟩ : ByteArray)] 25 (0, 0)) zE11_5 hb); have n3_ := Aside0.mk (below_step zE11_1 hb); clear BK304; clear BK305; clear BK306; clear HB; have BK304 := n0_; have BK305 := n1_; have BK306 := n2_; have HB := n3_; clear n0_ n1_ n2_ n3_; (try clear hb); (try clear hb2); (try clear hk); (try clear hi); have hnb43 := NB304_306.out; have hnc43 := NB306_304.out; have hcz44_0 : w42.cell? ⟨gb304, 0, none⟩ = some (.int .i64 a0_0) := (blk_cell BK304.out 0).trans rfl; have hcz44_1 : w42.cell? ⟨gb304, 1, none⟩ = some (.int .i64 a0_1) := (blk_cell BK304.out 1).trans rfl; have hcz44_2 : w42.cell? ⟨gb304, 2, none⟩ = some (.bool false) := (blk_cell BK304.out 2).trans rfl; have hcz44_3 : w42.cell? ⟨gb304, 3, none⟩ = some (.int .i64 a0_3) := (blk_cell BK304.out 3).trans rfl; have hcz44_4 : w42.cell? ⟨gb304, 4, none⟩ = some (.string a0_4) := (blk_cell BK304.out 4).trans rfl; have hfz44_0 := blk_frozen BK304.out 0; have hfz44_1 := blk_frozen BK304.out 1; have hfz44_2 := blk_frozen BK304.out 2; have hfz44_3 := blk_frozen BK304.out 3; have hfz44_4 := blk_frozen BK304.out 4; have hcz45_0 : w42.cell? ⟨gb305, 0, none⟩ = some (.int .i64 a1_0) := (blk_cell BK305.out 0).trans rfl; have hcz45_1 : w42.cell? ⟨gb305, 1, none⟩ = some (.int .i64 a1_1) := (blk_cell BK305.out 1).trans rfl; have hfz45_0 := blk_frozen BK305.out 0; have hfz45_1 := blk_frozen BK305.out 1) | ((with_reducible refine gate_callee (f := 18) rfl ?_); refine goesL_ (some 24) rfl rfl Tryz.func18 zE11_6 rfl #[.int .i64 a0_0, .int .i64 a1_0] rfl zE11_3 ?_; (with_reducible refine (colonnaderef02_way.calls a0_0 a1_0 true _ A5.out).mono ?_); rintro e w' ⟨rfl, ⟨nd, rfl⟩⟩; refine ⟨_, rfl, ?_⟩; (try (rw [drewN_self w42]; generalize hq_ : World.drewN w42 _ = w42; have n0_ : Aside0 (w42.heap[gb304]? = some (.cells #[.int .i64 a0_0, .int .i64 a0_1, .bool false, .int .i64 a0_3, .string a0_4] 25 (0, 0))) := ⟨by rw [← hq_]; exact zE11_2⟩; have n1_ : Aside0 (w42.heap[gb305]? = some (.cells #[.int .i64 a1_0, .int .i64 a1_1] 23 (0, 0))) := ⟨by rw [← hq_]; exact zE11_4⟩; have n2_ : Aside0 (w42.heap[gb306]? = some (.cells #[.int .i64 0, .int .i64 0, .bool false, .int .i64 0, .string (⟨#[]⟩ : ByteArray)] 25 (0, 0))) := ⟨by rw [← hq_]; exact zE11_5⟩; have n3_ : Aside0 (Below w.heap.size w w42) := ⟨by rw [← hq_]; exact zE11_1⟩; clear BK304 BK305 BK306 HB hq_; have BK304 := n0_; have BK305 := n1_; have BK306 := n2_; have HB := n3_; clear n0_ n1_ n2_ n3_; have hcy304_0 : w42.cell? ⟨gb304, 0, none⟩ = some (.int .i64 a0_0) := (blk_cell BK304.out 0).trans rfl; have hfy304_0 := blk_frozen BK304.out 0; have hcy304_1 : w42.cell? ⟨gb304, 1, none⟩ = some (.int .i64 a0_1) := (blk_cell BK304.out 1).trans rfl; have hfy304_1 := blk_frozen BK304.out 1; have hcy304_2 : w42.cell? ⟨gb304, 2, none⟩ = some (.bool false) := (blk_cell BK304.out 2).trans rfl; have hfy304_2 := blk_frozen BK304.out 2; have hcy304_3 : w42.cell? ⟨gb304, 3, none⟩ = some (.int .i64 a0_3) := (blk_cell BK304.out 3).trans rfl; have hfy304_3 := blk_frozen BK304.out 3; have hcy304_4 : w42.cell? ⟨gb304, 4, none⟩ = some (.string a0_4) := (blk_cell BK304.out 4).trans rfl; have hfy304_4 := blk_frozen BK304.out 4; have hcy305_0 : w42.cell? ⟨gb305, 0, none⟩ = some (.int .i64 a1_0) := (blk_cell BK305.out 0).trans rfl; have hfy305_0 := blk_frozen BK305.out 0; have hcy305_1 : w42.cell? ⟨gb305, 1, none⟩ = some (.int .i64 a1_1) := (blk_cell BK305.out 1).trans rfl; have hfy305_1 := blk_frozen BK305.out 1; have hcy306_0 : w42.cell? ⟨gb306, 0, none⟩ = some (.int .i64 0) := (blk_cell BK306.out 0).trans rfl; have hfy306_0 := blk_frozen BK306.out 0; have hcy306_1 : w42.cell? ⟨gb306, 1, none⟩ = some (.int .i64 0) := (blk_cell BK306.out 1).trans rfl; have hfy306_1 := blk_frozen BK306.out 1; have hcy306_2 : w42.cell? ⟨gb306, 2, none⟩ = some (.bool false) := (blk_cell BK306.out 2).trans rfl; have hfy306_2 := blk_frozen BK306.out 2; have hcy306_3 : w42.cell? ⟨gb306, 3, none⟩ = some (.int .i64 0) := (blk_cell BK306.out 3).trans rfl; have hfy306_3 := blk_frozen BK306.out 3; have hcy306_4 : w42.cell? ⟨gb306, 4, none⟩ = some (.string (⟨#[]⟩ : ByteArray)) := (blk_cell BK306.out 4).trans rfl; have hfy306_4 := blk_frozen BK306.out 4))) | ((with_reducible refine gate_callee (f := 21) rfl ?_); refine goesL_ (some 45) rfl rfl Tryz.func21 zE11_6 rfl #[.string a0_4] rfl zE11_3 ?_; (with_reducible refine (colonnaderef02_OfText.calls a0_4 t314 t315 t316 t317 t318 _ A35.out).mono ?_); rintro e w46 ⟨rfl, hb⟩; refine ⟨_, rfl, ?_⟩; have n0_ := Aside0.mk (blk_below (g := gb304) (o := .cells #[.int .i64 a0_0, .int .i64 a0_1, .bool false, .int .i64 a0_3, .string a0_4] 25 (0, 0)) zE11_2 hb); have n1_ := Aside0.mk (blk_below (g := gb305) (o := .cells #[.int .i64 a1_0, .int .i64 a1_1] 23 (0, 0)) zE11_4 hb); have n2_ := Aside0.mk (blk_below (g := gb306) (o := .cells #[.int .i64 0, .int .i64 0, .bool false, .int .i64 0, .string (⟨#[]⟩ : ByteArray)] 25 (0, 0)) zE11_5 hb); have n3_ := Aside0.mk (below_step zE11_1 hb); clear BK304; clear BK305; clear BK306; clear HB; have BK304 := n0_; have BK305 := n1_; have BK306 := n2_; have HB := n3_; clear n0_ n1_ n2_ n3_; (try clear hb); (try clear hb2); (try clear hk); (try clear hi); have hcz47_0 : w46.cell? ⟨gb306, 0, none⟩ = some (.int .i64 0) := (blk_cell BK306.out 0).trans rfl; have hcz47_1 : w46.cell? ⟨gb306, 1, none⟩ = some (.int .i64 0) := (blk_cell BK306.out 1).trans rfl; have hcz47_2 : w46.cell? ⟨gb306, 2, none⟩ = some (.bool false) := (blk_cell BK306.out 2).trans rfl; have hcz47_3 : w46.cell? ⟨gb306, 3, none⟩ = some (.int .i64 0) := (blk_cell BK306.out 3).trans rfl; have hcz47_4 : w46.cell? ⟨gb306, 4, none⟩ = some (.string (⟨#[]⟩ : ByteArray)) := (blk_cell BK306.out 4).trans rfl; have hfz47_0 := blk_frozen BK306.out 0; have hfz47_1 := blk_frozen BK306.out 1; have hfz47_2 := blk_frozen BK306.out 2; have hfz47_3 := blk_frozen BK306.out 3; have hfz47_4 := blk_frozen BK306.out 4))
       refine bodyPost_ret (results_ct rfl _ _ gb306 25 #[.int .i64 t314, .int .i64 t315, .bool t316, .int .i64 t317, .string t318] (0, 0) _ rfl (by (with_reducible repeat (first | refine blk_drewN ?_ _ | refine blk_drew ?_ | refine blk_alloc ?_ _)); refine blk_put (cs := #[.int .i64 t314, .int .i64 t315, .bool t316, .int .i64 t317, .string (⟨#[]⟩ : ByteArray)]) ?_ 4 _ rfl; (with_reducible repeat (first | refine blk_drewN ?_ _ | refine blk_drew ?_ | refine blk_alloc ?_ _)); refine blk_put (cs := #[.int .i64 t314, .int .i64 t315, .bool t316, .int .i64 0, .string (⟨#[]⟩ : ByteArray)]) ?_ 3 _ rfl; (with_reducible repeat (first | refine blk_drewN ?_ _ | refine blk_drew ?_ | refine blk_alloc ?_ _)); refine blk_put (cs := #[.int .i64 t314, .int .i64 t315, .bool false, .int .i64 0, .string (⟨#[]⟩ : ByteArray)]) ?_ 2 _ rfl; (with_reducible repeat (first | refine blk_drewN ?_ _ | refine blk_drew ?_ | refine blk_alloc ?_ _)); refine blk_put (cs := #[.int .i64 t314, .int .i64 0, .bool false, .int .i64 0, .string (⟨#[]⟩ : ByteArray)]) ?_ 1 _ rfl; (with_reducible repeat (first | refine blk_drewN ?_ _ | refine blk_drew ?_ | refine blk_alloc ?_ _)); refine blk_put (cs := #[.int .i64 0, .int .i64 0, .bool false, .int .i64 0, .string (⟨#[]⟩ : ByteArray)]) ?_ 0 _ rfl; (with_reducible repeat (first | refine blk_drewN ?_ _ | refine blk_drew ?_ | refine blk_alloc ?_ _)); exact BK306.out) Tryz.underlying25 rfl zE11_6) rfl ?_
       exact ⟨by first | rfl | (simp [errW_none, errW_some] <;> rfl) | (simp [*, errW_none, errW_some] <;> rfl), by repeat (first | (with_reducible first | exact HB.out | apply below_alloc | apply pw_below_drewN | apply below_drew1 | refine below_set ?_ GE304.out | refine below_set ?_ GE305.out | refine below_set ?_ GE306.out) | exact HB.out)⟩
     ·rw [if_neg c22] at H
      have c22b0 : (a0_0 == 4) = false := beq_eq_false_iff_ne.mpr c22
      have c22b1 : (a0_0 != 4) = true := bne_iff_ne.mpr c22
      replace H := Option.bind_eq_some_iff.mp H
      obtain ⟨t319, A480, H⟩ := H
      replace H : (if (t319.size : Int) > 256 then (some (0, 0, false, 0, (⟨#[]⟩ : ByteArray), 10)) else ((colonnaderef02_OfText.f t319).bind fun bt320 => (some (bt320.1, bt320.2.1, bt320.2.2.1, bt320.2.2.2.1, bt320.2.2.2.2, 0)))) = some (r1, r2, r3, r4, r5, r6) := H
      have A48 := Aside0.mk A480
      clear A480
      by_cases c49 : (t319.size : Int) > 256
      ·rw [if_pos c49] at H
       have c49b0 : decide (256 < (t319.size : Int)) = true := decide_eq_true c49
       have c49b1 : decide (256 < t319.size) = true := decide_eq_true (by omega)
       clear c49
       simp only [Option.some.injEq, Prod.mk.injEq] at H
       obtain ⟨rfl, rfl, rfl, rfl, rfl, rfl⟩ := H
       go_wp2_with (first | ((with_reducible refine gate_callee (f := 17) rfl ?_); refine goesL_ (some 13) rfl rfl Tryz.func17 zE11_6 rfl #[.agg #[.int .i64 a1_0, .int .i64 a1_1]] rfl zE11_3 ?_; (with_reducible refine (colonnaderef02_CheckType.calls a1_0 a1_1 t307 _ A3.out).mono ?_); rintro e w56 ⟨rfl, hb⟩; refine ⟨_, rfl, ?_⟩; have n0_ := Aside0.mk (blk_below (g := gb304) (o := .cells #[.int .i64 a0_0, .int .i64 a0_1, .bool false, .int .i64 a0_3, .string a0_4] 25 (0, 0)) zE11_2 hb); have n1_ := Aside0.mk (blk_below (g := gb305) (o := .cells #[.int .i64 a1_0, .int .i64 a1_1] 23 (0, 0)) zE11_4 hb); have n2_ := Aside0.mk (blk_below (g := gb306) (o := .cells #[.int .i64 0, .int .i64 0, .bool false, .int .i64 0, .string (⟨#[]⟩ : ByteArray)] 25 (0, 0)) zE11_5 hb); have n3_ := Aside0.mk (below_step zE11_1 hb); clear BK304; clear BK305; clear BK306; clear HB; have BK304 := n0_; have BK305 := n1_; have BK306 := n2_; have HB := n3_; clear n0_ n1_ n2_ n3_; (try clear hb); (try clear hb2); (try clear hk); (try clear hi); have hnb57 := NB304_306.out; have hnc57 := NB306_304.out; have hcz58_0 : w56.cell? ⟨gb304, 0, none⟩ = some (.int .i64 a0_0) := (blk_cell BK304.out 0).trans rfl; have hcz58_1 : w56.cell? ⟨gb304, 1, none⟩ = some (.int .i64 a0_1) := (blk_cell BK304.out 1).trans rfl; have hcz58_2 : w56.cell? ⟨gb304, 2, none⟩ = some (.bool false) := (blk_cell BK304.out 2).trans rfl; have hcz58_3 : w56.cell? ⟨gb304, 3, none⟩ = some (.int .i64 a0_3) := (blk_cell BK304.out 3).trans rfl; have hcz58_4 : w56.cell? ⟨gb304, 4, none⟩ = some (.string a0_4) := (blk_cell BK304.out 4).trans rfl; have hfz58_0 := blk_frozen BK304.out 0; have hfz58_1 := blk_frozen BK304.out 1; have hfz58_2 := blk_frozen BK304.out 2; have hfz58_3 := blk_frozen BK304.out 3; have hfz58_4 := blk_frozen BK304.out 4; have hcz59_0 : w56.cell? ⟨gb305, 0, none⟩ = some (.int .i64 a1_0) := (blk_cell BK305.out 0).trans rfl; have hcz59_1 : w56.cell? ⟨gb305, 1, none⟩ = some (.int .i64 a1_1) := (blk_cell BK305.out 1).trans rfl; have hfz59_0 := blk_frozen BK305.out 0; have hfz59_1 := blk_frozen BK305.out 1) | ((with_reducible refine gate_callee (f := 18) rfl ?_); refine goesL_ (some 24) rfl rfl Tryz.func18 zE11_6 rfl #[.int .i64 a0_0, .int .i64 a1_0] rfl zE11_3 ?_; (with_reducible refine (colonnaderef02_way.calls a0_0 a1_0 true _ A5.out).mono ?_); rintro e w' ⟨rfl, ⟨nd, rfl⟩⟩; refine ⟨_, rfl, ?_⟩; (try (rw [drewN_self w56]; generalize hq_ : World.drewN w56 _ = w56; have n0_ : Aside0 (w56.heap[gb304]? = some (.cells #[.int .i64 a0_0, .int .i64 a0_1, .bool false, .int .i64 a0_3, .string a0_4] 25 (0, 0))) := ⟨by rw [← hq_]; exact zE11_2⟩; have n1_ : Aside0 (w56.heap[gb305]? = some (.cells #[.int .i64 a1_0, .int .i64 a1_1] 23 (0, 0))) := ⟨by rw [← hq_]; exact zE11_4⟩; have n2_ : Aside0 (w56.heap[gb306]? = some (.cells #[.int .i64 0, .int .i64 0, .bool false, .int .i64 0, .string (⟨#[]⟩ : ByteArray)] 25 (0, 0))) := ⟨by rw [← hq_]; exact zE11_5⟩; have n3_ : Aside0 (Below w.heap.size w w56) := ⟨by rw [← hq_]; exact zE11_1⟩; clear BK304 BK305 BK306 HB hq_; have BK304 := n0_; have BK305 := n1_; have BK306 := n2_; have HB := n3_; clear n0_ n1_ n2_ n3_; have hcy304_0 : w56.cell? ⟨gb304, 0, none⟩ = some (.int .i64 a0_0) := (blk_cell BK304.out 0).trans rfl; have hfy304_0 := blk_frozen BK304.out 0; have hcy304_1 : w56.cell? ⟨gb304, 1, none⟩ = some (.int .i64 a0_1) := (blk_cell BK304.out 1).trans rfl; have hfy304_1 := blk_frozen BK304.out 1; have hcy304_2 : w56.cell? ⟨gb304, 2, none⟩ = some (.bool false) := (blk_cell BK304.out 2).trans rfl; have hfy304_2 := blk_frozen BK304.out 2; have hcy304_3 : w56.cell? ⟨gb304, 3, none⟩ = some (.int .i64 a0_3) := (blk_cell BK304.out 3).trans rfl; have hfy304_3 := blk_frozen BK304.out 3; have hcy304_4 : w56.cell? ⟨gb304, 4, none⟩ = some (.string a0_4) := (blk_cell BK304.out 4).trans rfl; have hfy304_4 := blk_frozen BK304.out 4; have hcy305_0 : w56.cell? ⟨gb305, 0, none⟩ = some (.int .i64 a1_0) := (blk_cell BK305.out 0).trans rfl; have hfy305_0 := blk_frozen BK305.out 0; have hcy305_1 : w56.cell? ⟨gb305, 1, none⟩ = some (.int .i64 a1_1) := (blk_cell BK305.out 1).trans rfl; have hfy305_1 := blk_frozen BK305.out 1; have hcy306_0 : w56.cell? ⟨gb306, 0, none⟩ = some (.int .i64 0) := (blk_cell BK306.out 0).trans rfl; have hfy306_0 := blk_frozen BK306.out 0; have hcy306_1 : w56.cell? ⟨gb306, 1, none⟩ = some (.int .i64 0) := (blk_cell BK306.out 1).trans rfl; have hfy306_1 := blk_frozen BK306.out 1; have hcy306_2 : w56.cell? ⟨gb306, 2, none⟩ = some (.bool false) := (blk_cell BK306.out 2).trans rfl; have hfy306_2 := blk_frozen BK306.out 2; have hcy306_3 : w56.cell? ⟨gb306, 3, none⟩ = some (.int .i64 0) := (blk_cell BK306.out 3).trans rfl; have hfy306_3 := blk_frozen BK306.out 3; have hcy306_4 : w56.cell? ⟨gb306, 4, none⟩ = some (.string (⟨#[]⟩ : ByteArray)) := (blk_cell BK306.out 4).trans rfl; have hfy306_4 := blk_frozen BK306.out 4))) | ((with_reducible refine gate_callee (f := 20) rfl ?_); refine goesL_ (some 39) rfl rfl Tryz.func20 zE11_6 rfl #[.agg #[.int .i64 a0_0, .int .i64 a0_1, .bool false, .int .i64 a0_3, .string a0_4]] rfl zE11_3 ?_; (with_reducible refine (colonnaderef02_Show.calls k a0_0 a0_1 false a0_3 a0_4 t319 _ A48.out).mono ?_); rintro e w60 ⟨rfl, hb⟩; refine ⟨_, rfl, ?_⟩; have n0_ := Aside0.mk (blk_below (g := gb304) (o := .cells #[.int .i64 a0_0, .int .i64 a0_1, .bool false, .int .i64 a0_3, .string a0_4] 25 (0, 0)) zE11_2 hb); have n1_ := Aside0.mk (blk_below (g := gb305) (o := .cells #[.int .i64 a1_0, .int .i64 a1_1] 23 (0, 0)) zE11_4 hb); have n2_ := Aside0.mk (blk_below (g := gb306) (o := .cells #[.int .i64 0, .int .i64 0, .bool false, .int .i64 0, .string (⟨#[]⟩ : ByteArray)] 25 (0, 0)) zE11_5 hb); have n3_ := Aside0.mk (below_step zE11_1 hb); clear BK304; clear BK305; clear BK306; clear HB; have BK304 := n0_; have BK305 := n1_; have BK306 := n2_; have HB := n3_; clear n0_ n1_ n2_ n3_; (try clear hb); (try clear hb2); (try clear hk); (try clear hi); have hcz61_0 : w60.cell? ⟨gb306, 0, none⟩ = some (.int .i64 0) := (blk_cell BK306.out 0).trans rfl; have hcz61_1 : w60.cell? ⟨gb306, 1, none⟩ = some (.int .i64 0) := (blk_cell BK306.out 1).trans rfl; have hcz61_2 : w60.cell? ⟨gb306, 2, none⟩ = some (.bool false) := (blk_cell BK306.out 2).trans rfl; have hcz61_3 : w60.cell? ⟨gb306, 3, none⟩ = some (.int .i64 0) := (blk_cell BK306.out 3).trans rfl; have hcz61_4 : w60.cell? ⟨gb306, 4, none⟩ = some (.string (⟨#[]⟩ : ByteArray)) := (blk_cell BK306.out 4).trans rfl; have hfz61_0 := blk_frozen BK306.out 0; have hfz61_1 := blk_frozen BK306.out 1; have hfz61_2 := blk_frozen BK306.out 2; have hfz61_3 := blk_frozen BK306.out 3; have hfz61_4 := blk_frozen BK306.out 4))
       refine bodyPost_ret (results_ct rfl _ _ gb306 25 #[.int .i64 0, .int .i64 0, .bool false, .int .i64 0, .string (⟨#[]⟩ : ByteArray)] (0, 0) _ rfl zE11_0 Tryz.underlying25 rfl zE11_6) rfl ?_
       exact ⟨by first | rfl | (simp [errW_none, errW_some] <;> rfl) | (simp [*, errW_none, errW_some] <;> rfl), by repeat (first | (with_reducible first | exact HB.out | apply below_alloc | apply pw_below_drewN | apply below_drew1 | refine below_set ?_ GE304.out | refine below_set ?_ GE305.out | refine below_set ?_ GE306.out) | exact HB.out)⟩
      ·rw [if_neg c49] at H
       have c49b0 : decide (256 < (t319.size : Int)) = false := decide_eq_false c49
       have c49b1 : decide (256 < t319.size) = false := decide_eq_false (by omega)
       clear c49
       replace H := Option.bind_eq_some_iff.mp H
       obtain ⟨⟨t320, t321, t322, t323, t324⟩, A620, H⟩ := H
       replace H : (some (t320, t321, t322, t323, t324, 0)) = some (r1, r2, r3, r4, r5, r6) := H
       have A62 := Aside0.mk A620
       clear A620
       simp only [Option.some.injEq, Prod.mk.injEq] at H
       obtain ⟨rfl, rfl, rfl, rfl, rfl, rfl⟩ := H
       go_wp2_with (first | ((with_reducible refine gate_callee (f := 17) rfl ?_); refine goesL_ (some 13) rfl rfl Tryz.func17 zE11_6 rfl #[.agg #[.int .i64 a1_0, .int .i64 a1_1]] rfl zE11_3 ?_; (with_reducible refine (colonnaderef02_CheckType.calls a1_0 a1_1 t307 _ A3.out).mono ?_); rintro e w69 ⟨rfl, hb⟩; refine ⟨_, rfl, ?_⟩; have n0_ := Aside0.mk (blk_below (g := gb304) (o := .cells #[.int .i64 a0_0, .int .i64 a0_1, .bool false, .int .i64 a0_3, .string a0_4] 25 (0, 0)) zE11_2 hb); have n1_ := Aside0.mk (blk_below (g := gb305) (o := .cells #[.int .i64 a1_0, .int .i64 a1_1] 23 (0, 0)) zE11_4 hb); have n2_ := Aside0.mk (blk_below (g := gb306) (o := .cells #[.int .i64 0, .int .i64 0, .bool false, .int .i64 0, .string (⟨#[]⟩ : ByteArray)] 25 (0, 0)) zE11_5 hb); have n3_ := Aside0.mk (below_step zE11_1 hb); clear BK304; clear BK305; clear BK306; clear HB; have BK304 := n0_; have BK305 := n1_; have BK306 := n2_; have HB := n3_; clear n0_ n1_ n2_ n3_; (try clear hb); (try clear hb2); (try clear hk); (try clear hi); have hnb70 := NB304_306.out; have hnc70 := NB306_304.out; have hcz71_0 : w69.cell? ⟨gb304, 0, none⟩ = some (.int .i64 a0_0) := (blk_cell BK304.out 0).trans rfl; have hcz71_1 : w69.cell? ⟨gb304, 1, none⟩ = some (.int .i64 a0_1) := (blk_cell BK304.out 1).trans rfl; have hcz71_2 : w69.cell? ⟨gb304, 2, none⟩ = some (.bool false) := (blk_cell BK304.out 2).trans rfl; have hcz71_3 : w69.cell? ⟨gb304, 3, none⟩ = some (.int .i64 a0_3) := (blk_cell BK304.out 3).trans rfl; have hcz71_4 : w69.cell? ⟨gb304, 4, none⟩ = some (.string a0_4) := (blk_cell BK304.out 4).trans rfl; have hfz71_0 := blk_frozen BK304.out 0; have hfz71_1 := blk_frozen BK304.out 1; have hfz71_2 := blk_frozen BK304.out 2; have hfz71_3 := blk_frozen BK304.out 3; have hfz71_4 := blk_frozen BK304.out 4; have hcz72_0 : w69.cell? ⟨gb305, 0, none⟩ = some (.int .i64 a1_0) := (blk_cell BK305.out 0).trans rfl; have hcz72_1 : w69.cell? ⟨gb305, 1, none⟩ = some (.int .i64 a1_1) := (blk_cell BK305.out 1).trans rfl; have hfz72_0 := blk_frozen BK305.out 0; have hfz72_1 := blk_frozen BK305.out 1) | ((with_reducible refine gate_callee (f := 18) rfl ?_); refine goesL_ (some 24) rfl rfl Tryz.func18 zE11_6 rfl #[.int .i64 a0_0, .int .i64 a1_0] rfl zE11_3 ?_; (with_reducible refine (colonnaderef02_way.calls a0_0 a1_0 true _ A5.out).mono ?_); rintro e w' ⟨rfl, ⟨nd, rfl⟩⟩; refine ⟨_, rfl, ?_⟩; (try (rw [drewN_self w69]; generalize hq_ : World.drewN w69 _ = w69; have n0_ : Aside0 (w69.heap[gb304]? = some (.cells #[.int .i64 a0_0, .int .i64 a0_1, .bool false, .int .i64 a0_3, .string a0_4] 25 (0, 0))) := ⟨by rw [← hq_]; exact zE11_2⟩; have n1_ : Aside0 (w69.heap[gb305]? = some (.cells #[.int .i64 a1_0, .int .i64 a1_1] 23 (0, 0))) := ⟨by rw [← hq_]; exact zE11_4⟩; have n2_ : Aside0 (w69.heap[gb306]? = some (.cells #[.int .i64 0, .int .i64 0, .bool false, .int .i64 0, .string (⟨#[]⟩ : ByteArray)] 25 (0, 0))) := ⟨by rw [← hq_]; exact zE11_5⟩; have n3_ : Aside0 (Below w.heap.size w w69) := ⟨by rw [← hq_]; exact zE11_1⟩; clear BK304 BK305 BK306 HB hq_; have BK304 := n0_; have BK305 := n1_; have BK306 := n2_; have HB := n3_; clear n0_ n1_ n2_ n3_; have hcy304_0 : w69.cell? ⟨gb304, 0, none⟩ = some (.int .i64 a0_0) := (blk_cell BK304.out 0).trans rfl; have hfy304_0 := blk_frozen BK304.out 0; have hcy304_1 : w69.cell? ⟨gb304, 1, none⟩ = some (.int .i64 a0_1) := (blk_cell BK304.out 1).trans rfl; have hfy304_1 := blk_frozen BK304.out 1; have hcy304_2 : w69.cell? ⟨gb304, 2, none⟩ = some (.bool false) := (blk_cell BK304.out 2).trans rfl; have hfy304_2 := blk_frozen BK304.out 2; have hcy304_3 : w69.cell? ⟨gb304, 3, none⟩ = some (.int .i64 a0_3) := (blk_cell BK304.out 3).trans rfl; have hfy304_3 := blk_frozen BK304.out 3; have hcy304_4 : w69.cell? ⟨gb304, 4, none⟩ = some (.string a0_4) := (blk_cell BK304.out 4).trans rfl; have hfy304_4 := blk_frozen BK304.out 4; have hcy305_0 : w69.cell? ⟨gb305, 0, none⟩ = some (.int .i64 a1_0) := (blk_cell BK305.out 0).trans rfl; have hfy305_0 := blk_frozen BK305.out 0; have hcy305_1 : w69.cell? ⟨gb305, 1, none⟩ = some (.int .i64 a1_1) := (blk_cell BK305.out 1).trans rfl; have hfy305_1 := blk_frozen BK305.out 1; have hcy306_0 : w69.cell? ⟨gb306, 0, none⟩ = some (.int .i64 0) := (blk_cell BK306.out 0).trans rfl; have hfy306_0 := blk_frozen BK306.out 0; have hcy306_1 : w69.cell? ⟨gb306, 1, none⟩ = some (.int .i64 0) := (blk_cell BK306.out 1).trans rfl; have hfy306_1 := blk_frozen BK306.out 1; have hcy306_2 : w69.cell? ⟨gb306, 2, none⟩ = some (.bool false) := (blk_cell BK306.out 2).trans rfl; have hfy306_2 := blk_frozen BK306.out 2; have hcy306_3 : w69.cell? ⟨gb306, 3, none⟩ = some (.int .i64 0) := (blk_cell BK306.out 3).trans rfl; have hfy306_3 := blk_frozen BK306.out 3; have hcy306_4 : w69.cell? ⟨gb306, 4, none⟩ = some (.string (⟨#[]⟩ : ByteArray)) := (blk_cell BK306.out 4).trans rfl; have hfy306_4 := blk_frozen BK306.out 4))) | ((with_reducible refine gate_callee (f := 20) rfl ?_); refine goesL_ (some 39) rfl rfl Tryz.func20 zE11_6 rfl #[.agg #[.int .i64 a0_0, .int .i64 a0_1, .bool false, .int .i64 a0_3, .string a0_4]] rfl zE11_3 ?_; (with_reducible refine (colonnaderef02_Show.calls k a0_0 a0_1 false a0_3 a0_4 t319 _ A48.out).mono ?_); rintro e w73 ⟨rfl, hb⟩; refine ⟨_, rfl, ?_⟩; have n0_ := Aside0.mk (blk_below (g := gb304) (o := .cells #[.int .i64 a0_0, .int .i64 a0_1, .bool false, .int .i64 a0_3, .string a0_4] 25 (0, 0)) zE11_2 hb); have n1_ := Aside0.mk (blk_below (g := gb305) (o := .cells #[.int .i64 a1_0, .int .i64 a1_1] 23 (0, 0)) zE11_4 hb); have n2_ := Aside0.mk (blk_below (g := gb306) (o := .cells #[.int .i64 0, .int .i64 0, .bool false, .int .i64 0, .string (⟨#[]⟩ : ByteArray)] 25 (0, 0)) zE11_5 hb); have n3_ := Aside0.mk (below_step zE11_1 hb); clear BK304; clear BK305; clear BK306; clear HB; have BK304 := n0_; have BK305 := n1_; have BK306 := n2_; have HB := n3_; clear n0_ n1_ n2_ n3_; (try clear hb); (try clear hb2); (try clear hk); (try clear hi)) | ((with_reducible refine gate_callee (f := 21) rfl ?_); refine goesL_ (some 45) rfl rfl Tryz.func21 zE11_6 rfl #[.string t319] rfl zE11_3 ?_; (with_reducible refine (colonnaderef02_OfText.calls t319 t320 t321 t322 t323 t324 _ A62.out).mono ?_); rintro e w74 ⟨rfl, hb⟩; refine ⟨_, rfl, ?_⟩; have n0_ := Aside0.mk (blk_below (g := gb304) (o := .cells #[.int .i64 a0_0, .int .i64 a0_1, .bool false, .int .i64 a0_3, .string a0_4] 25 (0, 0)) zE11_2 hb); have n1_ := Aside0.mk (blk_below (g := gb305) (o := .cells #[.int .i64 a1_0, .int .i64 a1_1] 23 (0, 0)) zE11_4 hb); have n2_ := Aside0.mk (blk_below (g := gb306) (o := .cells #[.int .i64 0, .int .i64 0, .bool false, .int .i64 0, .string (⟨#[]⟩ : ByteArray)] 25 (0, 0)) zE11_5 hb); have n3_ := Aside0.mk (below_step zE11_1 hb); clear BK304; clear BK305; clear BK306; clear HB; have BK304 := n0_; have BK305 := n1_; have BK306 := n2_; have HB := n3_; clear n0_ n1_ n2_ n3_; (try clear hb); (try clear hb2); (try clear hk); (try clear hi); have hcz75_0 : w74.cell? ⟨gb306, 0, none⟩ = some (.int .i64 0) := (blk_cell BK306.out 0).trans rfl; have hcz75_1 : w74.cell? ⟨gb306, 1, none⟩ = some (.int .i64 0) := (blk_cell BK306.out 1).trans rfl; have hcz75_2 : w74.cell? ⟨gb306, 2, none⟩ = some (.bool false) := (blk_cell BK306.out 2).trans rfl; have hcz75_3 : w74.cell? ⟨gb306, 3, none⟩ = some (.int .i64 0) := (blk_cell BK306.out 3).trans rfl; have hcz75_4 : w74.cell? ⟨gb306, 4, none⟩ = some (.string (⟨#[]⟩ : ByteArray)) := (blk_cell BK306.out 4).trans rfl; have hfz75_0 := blk_frozen BK306.out 0; have hfz75_1 := blk_frozen BK306.out 1; have hfz75_2 := blk_frozen BK306.out 2; have hfz75_3 := blk_frozen BK306.out 3; have hfz75_4 := blk_frozen BK306.out 4))
       refine bodyPost_ret (results_ct rfl _ _ gb306 25 #[.int .i64 t320, .int .i64 t321, .bool t322, .int .i64 t323, .string t324] (0, 0) _ rfl (by (with_reducible repeat (first | refine blk_drewN ?_ _ | refine blk_drew ?_ | refine blk_alloc ?_ _)); refine blk_put (cs := #[.int .i64 t320, .int .i64 t321, .bool t322, .int .i64 t323, .string (⟨#[]⟩ : ByteArray)]) ?_ 4 _ rfl; (with_reducible repeat (first | refine blk_drewN ?_ _ | refine blk_drew ?_ | refine blk_alloc ?_ _)); refine blk_put (cs := #[.int .i64 t320, .int .i64 t321, .bool t322, .int .i64 0, .string (⟨#[]⟩ : ByteArray)]) ?_ 3 _ rfl; (with_reducible repeat (first | refine blk_drewN ?_ _ | refine blk_drew ?_ | refine blk_alloc ?_ _)); refine blk_put (cs := #[.int .i64 t320, .int .i64 t321, .bool false, .int .i64 0, .string (⟨#[]⟩ : ByteArray)]) ?_ 2 _ rfl; (with_reducible repeat (first | refine blk_drewN ?_ _ | refine blk_drew ?_ | refine blk_alloc ?_ _)); refine blk_put (cs := #[.int .i64 t320, .int .i64 0, .bool false, .int .i64 0, .string (⟨#[]⟩ : ByteArray)]) ?_ 1 _ rfl; (with_reducible repeat (first | refine blk_drewN ?_ _ | refine blk_drew ?_ | refine blk_alloc ?_ _)); refine blk_put (cs := #[.int .i64 0, .int .i64 0, .bool false, .int .i64 0, .string (⟨#[]⟩ : ByteArray)]) ?_ 0 _ rfl; (with_reducible repeat (first | refine blk_drewN ?_ _ | refine blk_drew ?_ | refine blk_alloc ?_ _)); exact BK306.out) Tryz.underlying25 rfl zE11_6) rfl ?_
       exact ⟨by first | rfl | (simp [errW_none, errW_some] <;> rfl) | (simp [*, errW_none, errW_some] <;> rfl), by repeat (first | (with_reducible first | exact HB.out | apply below_alloc | apply pw_below_drewN | apply below_drew1 | refine below_set ?_ GE304.out | refine below_set ?_ GE305.out | refine below_set ?_ GE306.out) | exact HB.out)⟩
    ·rw [if_neg c21] at H
     have c21b0 : (a1_0 == 4) = false := beq_eq_false_iff_ne.mpr c21
     have c21b1 : (a1_0 != 4) = true := bne_iff_ne.mpr c21
     by_cases c76 : a0_0 = 4
     ·rw [if_pos c76] at H
      have c76b0 : (a0_0 == 4) = true := beq_iff_eq.mpr c76
      have c76b1 : (a0_0 != 4) = false := bne_eq_false_iff_eq.mpr c76
      clear c76
      replace H := Option.bind_eq_some_iff.mp H
      obtain ⟨⟨t325, t326, t327, t328, t329, t330⟩, A770, H⟩ := H
      replace H : (some (t325, t326, t327, t328, t329, t330)) = some (r1, r2, r3, r4, r5, r6) := H
      have A77 := Aside0.mk A770
      clear A770
      simp only [Option.some.injEq, Prod.mk.injEq] at H
      obtain ⟨rfl, rfl, rfl, rfl, rfl, rfl⟩ := H
      go_wp2_with (first | ((with_reducible refine gate_callee (f := 17) rfl ?_); refine goesL_ (some 13) rfl rfl Tryz.func17 zE11_6 rfl #[.agg #[.int .i64 a1_0, .int .i64 a1_1]] rfl zE11_3 ?_; (with_reducible refine (colonnaderef02_CheckType.calls a1_0 a1_1 t307 _ A3.out).mono ?_); rintro e w84 ⟨rfl, hb⟩; refine ⟨_, rfl, ?_⟩; have n0_ := Aside0.mk (blk_below (g := gb304) (o := .cells #[.int .i64 a0_0, .int .i64 a0_1, .bool false, .int .i64 a0_3, .string a0_4] 25 (0, 0)) zE11_2 hb); have n1_ := Aside0.mk (blk_below (g := gb305) (o := .cells #[.int .i64 a1_0, .int .i64 a1_1] 23 (0, 0)) zE11_4 hb); have n2_ := Aside0.mk (blk_below (g := gb306) (o := .cells #[.int .i64 0, .int .i64 0, .bool false, .int .i64 0, .string (⟨#[]⟩ : ByteArray)] 25 (0, 0)) zE11_5 hb); have n3_ := Aside0.mk (below_step zE11_1 hb); clear BK304; clear BK305; clear BK306; clear HB; have BK304 := n0_; have BK305 := n1_; have BK306 := n2_; have HB := n3_; clear n0_ n1_ n2_ n3_; (try clear hb); (try clear hb2); (try clear hk); (try clear hi); have hnb85 := NB304_306.out; have hnc85 := NB306_304.out; have hcz86_0 : w84.cell? ⟨gb304, 0, none⟩ = some (.int .i64 a0_0) := (blk_cell BK304.out 0).trans rfl; have hcz86_1 : w84.cell? ⟨gb304, 1, none⟩ = some (.int .i64 a0_1) := (blk_cell BK304.out 1).trans rfl; have hcz86_2 : w84.cell? ⟨gb304, 2, none⟩ = some (.bool false) := (blk_cell BK304.out 2).trans rfl; have hcz86_3 : w84.cell? ⟨gb304, 3, none⟩ = some (.int .i64 a0_3) := (blk_cell BK304.out 3).trans rfl; have hcz86_4 : w84.cell? ⟨gb304, 4, none⟩ = some (.string a0_4) := (blk_cell BK304.out 4).trans rfl; have hfz86_0 := blk_frozen BK304.out 0; have hfz86_1 := blk_frozen BK304.out 1; have hfz86_2 := blk_frozen BK304.out 2; have hfz86_3 := blk_frozen BK304.out 3; have hfz86_4 := blk_frozen BK304.out 4; have hcz87_0 : w84.cell? ⟨gb305, 0, none⟩ = some (.int .i64 a1_0) := (blk_cell BK305.out 0).trans rfl; have hcz87_1 : w84.cell? ⟨gb305, 1, none⟩ = some (.int .i64 a1_1) := (blk_cell BK305.out 1).trans rfl; have hfz87_0 := blk_frozen BK305.out 0; have hfz87_1 := blk_frozen BK305.out 1) | ((with_reducible refine gate_callee (f := 18) rfl ?_); refine goesL_ (some 24) rfl rfl Tryz.func18 zE11_6 rfl #[.int .i64 a0_0, .int .i64 a1_0] rfl zE11_3 ?_; (with_reducible refine (colonnaderef02_way.calls a0_0 a1_0 true _ A5.out).mono ?_); rintro e w' ⟨rfl, ⟨nd, rfl⟩⟩; refine ⟨_, rfl, ?_⟩; (try (rw [drewN_self w84]; generalize hq_ : World.drewN w84 _ = w84; have n0_ : Aside0 (w84.heap[gb304]? = some (.cells #[.int .i64 a0_0, .int .i64 a0_1, .bool false, .int .i64 a0_3, .string a0_4] 25 (0, 0))) := ⟨by rw [← hq_]; exact zE11_2⟩; have n1_ : Aside0 (w84.heap[gb305]? = some (.cells #[.int .i64 a1_0, .int .i64 a1_1] 23 (0, 0))) := ⟨by rw [← hq_]; exact zE11_4⟩; have n2_ : Aside0 (w84.heap[gb306]? = some (.cells #[.int .i64 0, .int .i64 0, .bool false, .int .i64 0, .string (⟨#[]⟩ : ByteArray)] 25 (0, 0))) := ⟨by rw [← hq_]; exact zE11_5⟩; have n3_ : Aside0 (Below w.heap.size w w84) := ⟨by rw [← hq_]; exact zE11_1⟩; clear BK304 BK305 BK306 HB hq_; have BK304 := n0_; have BK305 := n1_; have BK306 := n2_; have HB := n3_; clear n0_ n1_ n2_ n3_; have hcy304_0 : w84.cell? ⟨gb304, 0, none⟩ = some (.int .i64 a0_0) := (blk_cell BK304.out 0).trans rfl; have hfy304_0 := blk_frozen BK304.out 0; have hcy304_1 : w84.cell? ⟨gb304, 1, none⟩ = some (.int .i64 a0_1) := (blk_cell BK304.out 1).trans rfl; have hfy304_1 := blk_frozen BK304.out 1; have hcy304_2 : w84.cell? ⟨gb304, 2, none⟩ = some (.bool false) := (blk_cell BK304.out 2).trans rfl; have hfy304_2 := blk_frozen BK304.out 2; have hcy304_3 : w84.cell? ⟨gb304, 3, none⟩ = some (.int .i64 a0_3) := (blk_cell BK304.out 3).trans rfl; have hfy304_3 := blk_frozen BK304.out 3; have hcy304_4 : w84.cell? ⟨gb304, 4, none⟩ = some (.string a0_4) := (blk_cell BK304.out 4).trans rfl; have hfy304_4 := blk_frozen BK304.out 4; have hcy305_0 : w84.cell? ⟨gb305, 0, none⟩ = some (.int .i64 a1_0) := (blk_cell BK305.out 0).trans rfl; have hfy305_0 := blk_frozen BK305.out 0; have hcy305_1 : w84.cell? ⟨gb305, 1, none⟩ = some (.int .i64 a1_1) := (blk_cell BK305.out 1).trans rfl; have hfy305_1 := blk_frozen BK305.out 1; have hcy306_0 : w84.cell? ⟨gb306, 0, none⟩ = some (.int .i64 0) := (blk_cell BK306.out 0).trans rfl; have hfy306_0 := blk_frozen BK306.out 0; have hcy306_1 : w84.cell? ⟨gb306, 1, none⟩ = some (.int .i64 0) := (blk_cell BK306.out 1).trans rfl; have hfy306_1 := blk_frozen BK306.out 1; have hcy306_2 : w84.cell? ⟨gb306, 2, none⟩ = some (.bool false) := (blk_cell BK306.out 2).trans rfl; have hfy306_2 := blk_frozen BK306.out 2; have hcy306_3 : w84.cell? ⟨gb306, 3, none⟩ = some (.int .i64 0) := (blk_cell BK306.out 3).trans rfl; have hfy306_3 := blk_frozen BK306.out 3; have hcy306_4 : w84.cell? ⟨gb306, 4, none⟩ = some (.string (⟨#[]⟩ : ByteArray)) := (blk_cell BK306.out 4).trans rfl; have hfy306_4 := blk_frozen BK306.out 4))) | ((with_reducible refine gate_callee (f := 22) rfl ?_); refine goesL_ (some 51) rfl rfl Tryz.func22 zE11_6 rfl #[.string a0_4, .agg #[.int .i64 a1_0, .int .i64 a1_1]] rfl zE11_3 ?_; (with_reducible refine (colonnaderef02_read.calls k a0_4 a1_0 a1_1 t325 t326 t327 t328 t329 t330 _ A77.out).mono ?_); rintro e w88 ⟨rfl, hb⟩; refine ⟨_, rfl, ?_⟩; have n0_ := Aside0.mk (blk_below (g := gb304) (o := .cells #[.int .i64 a0_0, .int .i64 a0_1, .bool false, .int .i64 a0_3, .string a0_4] 25 (0, 0)) zE11_2 hb); have n1_ := Aside0.mk (blk_below (g := gb305) (o := .cells #[.int .i64 a1_0, .int .i64 a1_1] 23 (0, 0)) zE11_4 hb); have n2_ := Aside0.mk (blk_below (g := gb306) (o := .cells #[.int .i64 0, .int .i64 0, .bool false, .int .i64 0, .string (⟨#[]⟩ : ByteArray)] 25 (0, 0)) zE11_5 hb); have n3_ := Aside0.mk (below_step zE11_1 hb); clear BK304; clear BK305; clear BK306; clear HB; have BK304 := n0_; have BK305 := n1_; have BK306 := n2_; have HB := n3_; clear n0_ n1_ n2_ n3_; (try clear hb); (try clear hb2); (try clear hk); (try clear hi); have hcz89_0 : w88.cell? ⟨gb306, 0, none⟩ = some (.int .i64 0) := (blk_cell BK306.out 0).trans rfl; have hcz89_1 : w88.cell? ⟨gb306, 1, none⟩ = some (.int .i64 0) := (blk_cell BK306.out 1).trans rfl; have hcz89_2 : w88.cell? ⟨gb306, 2, none⟩ = some (.bool false) := (blk_cell BK306.out 2).trans rfl; have hcz89_3 : w88.cell? ⟨gb306, 3, none⟩ = some (.int .i64 0) := (blk_cell BK306.out 3).trans rfl; have hcz89_4 : w88.cell? ⟨gb306, 4, none⟩ = some (.string (⟨#[]⟩ : ByteArray)) := (blk_cell BK306.out 4).trans rfl; have hfz89_0 := blk_frozen BK306.out 0; have hfz89_1 := blk_frozen BK306.out 1; have hfz89_2 := blk_frozen BK306.out 2; have hfz89_3 := blk_frozen BK306.out 3; have hfz89_4 := blk_frozen BK306.out 4))
      refine bodyPost_ret (results_ct rfl _ _ gb306 25 #[.int .i64 t325, .int .i64 t326, .bool t327, .int .i64 t328, .string t329] (0, 0) _ rfl (by (with_reducible repeat (first | refine blk_drewN ?_ _ | refine blk_drew ?_ | refine blk_alloc ?_ _)); refine blk_put (cs := #[.int .i64 t325, .int .i64 t326, .bool t327, .int .i64 t328, .string (⟨#[]⟩ : ByteArray)]) ?_ 4 _ rfl; (with_reducible repeat (first | refine blk_drewN ?_ _ | refine blk_drew ?_ | refine blk_alloc ?_ _)); refine blk_put (cs := #[.int .i64 t325, .int .i64 t326, .bool t327, .int .i64 0, .string (⟨#[]⟩ : ByteArray)]) ?_ 3 _ rfl; (with_reducible repeat (first | refine blk_drewN ?_ _ | refine blk_drew ?_ | refine blk_alloc ?_ _)); refine blk_put (cs := #[.int .i64 t325, .int .i64 t326, .bool false, .int .i64 0, .string (⟨#[]⟩ : ByteArray)]) ?_ 2 _ rfl; (with_reducible repeat (first | refine blk_drewN ?_ _ | refine blk_drew ?_ | refine blk_alloc ?_ _)); refine blk_put (cs := #[.int .i64 t325, .int .i64 0, .bool false, .int .i64 0, .string (⟨#[]⟩ : ByteArray)]) ?_ 1 _ rfl; (with_reducible repeat (first | refine blk_drewN ?_ _ | refine blk_drew ?_ | refine blk_alloc ?_ _)); refine blk_put (cs := #[.int .i64 0, .int .i64 0, .bool false, .int .i64 0, .string (⟨#[]⟩ : ByteArray)]) ?_ 0 _ rfl; (with_reducible repeat (first | refine blk_drewN ?_ _ | refine blk_drew ?_ | refine blk_alloc ?_ _)); exact BK306.out) Tryz.underlying25 rfl zE11_6) rfl ?_
      exact ⟨by first | rfl | (simp [errW_none, errW_some] <;> rfl) | (simp [*, errW_none, errW_some] <;> rfl), by repeat (first | (with_reducible first | exact HB.out | apply below_alloc | apply pw_below_drewN | apply below_drew1 | refine below_set ?_ GE304.out | refine below_set ?_ GE305.out | refine below_set ?_ GE306.out) | exact HB.out)⟩
     ·rw [if_neg c76] at H
      have c76b0 : (a0_0 == 4) = false := beq_eq_false_iff_ne.mpr c76
      have c76b1 : (a0_0 != 4) = true := bne_iff_ne.mpr c76
      have HC90 := Aside0.mk H
      clear H
      go_upto_region 19 with (first | ((with_reducible refine gate_callee (f := 17) rfl ?_); refine goesL_ (some 13) rfl rfl Tryz.func17 zE11_6 rfl #[.agg #[.int .i64 a1_0, .int .i64 a1_1]] rfl zE11_3 ?_; (with_reducible refine (colonnaderef02_CheckType.calls a1_0 a1_1 t307 _ A3.out).mono ?_); rintro e w97 ⟨rfl, hb⟩; refine ⟨_, rfl, ?_⟩; have n0_ := Aside0.mk (blk_below (g := gb304) (o := .cells #[.int .i64 a0_0, .int .i64 a0_1, .bool false, .int .i64 a0_3, .string a0_4] 25 (0, 0)) zE11_2 hb); have n1_ := Aside0.mk (blk_below (g := gb305) (o := .cells #[.int .i64 a1_0, .int .i64 a1_1] 23 (0, 0)) zE11_4 hb); have n2_ := Aside0.mk (blk_below (g := gb306) (o := .cells #[.int .i64 0, .int .i64 0, .bool false, .int .i64 0, .string (⟨#[]⟩ : ByteArray)] 25 (0, 0)) zE11_5 hb); have n3_ := Aside0.mk (below_step zE11_1 hb); clear BK304; clear BK305; clear BK306; clear HB; have BK304 := n0_; have BK305 := n1_; have BK306 := n2_; have HB := n3_; clear n0_ n1_ n2_ n3_; (try clear hb); (try clear hb2); (try clear hk); (try clear hi); have hnb98 := NB304_306.out; have hnc98 := NB306_304.out; have hcz99_0 : w97.cell? ⟨gb304, 0, none⟩ = some (.int .i64 a0_0) := (blk_cell BK304.out 0).trans rfl; have hcz99_1 : w97.cell? ⟨gb304, 1, none⟩ = some (.int .i64 a0_1) := (blk_cell BK304.out 1).trans rfl; have hcz99_2 : w97.cell? ⟨gb304, 2, none⟩ = some (.bool false) := (blk_cell BK304.out 2).trans rfl; have hcz99_3 : w97.cell? ⟨gb304, 3, none⟩ = some (.int .i64 a0_3) := (blk_cell BK304.out 3).trans rfl; have hcz99_4 : w97.cell? ⟨gb304, 4, none⟩ = some (.string a0_4) := (blk_cell BK304.out 4).trans rfl; have hfz99_0 := blk_frozen BK304.out 0; have hfz99_1 := blk_frozen BK304.out 1; have hfz99_2 := blk_frozen BK304.out 2; have hfz99_3 := blk_frozen BK304.out 3; have hfz99_4 := blk_frozen BK304.out 4; have hcz100_0 : w97.cell? ⟨gb305, 0, none⟩ = some (.int .i64 a1_0) := (blk_cell BK305.out 0).trans rfl; have hcz100_1 : w97.cell? ⟨gb305, 1, none⟩ = some (.int .i64 a1_1) := (blk_cell BK305.out 1).trans rfl; have hfz100_0 := blk_frozen BK305.out 0; have hfz100_1 := blk_frozen BK305.out 1) | ((with_reducible refine gate_callee (f := 18) rfl ?_); refine goesL_ (some 24) rfl rfl Tryz.func18 zE11_6 rfl #[.int .i64 a0_0, .int .i64 a1_0] rfl zE11_3 ?_; (with_reducible refine (colonnaderef02_way.calls a0_0 a1_0 true _ A5.out).mono ?_); rintro e w' ⟨rfl, ⟨nd, rfl⟩⟩; refine ⟨_, rfl, ?_⟩; (try (rw [drewN_self w97]; generalize hq_ : World.drewN w97 _ = w97; have n0_ : Aside0 (w97.heap[gb304]? = some (.cells #[.int .i64 a0_0, .int .i64 a0_1, .bool false, .int .i64 a0_3, .string a0_4] 25 (0, 0))) := ⟨by rw [← hq_]; exact zE11_2⟩; have n1_ : Aside0 (w97.heap[gb305]? = some (.cells #[.int .i64 a1_0, .int .i64 a1_1] 23 (0, 0))) := ⟨by rw [← hq_]; exact zE11_4⟩; have n2_ : Aside0 (w97.heap[gb306]? = some (.cells #[.int .i64 0, .int .i64 0, .bool false, .int .i64 0, .string (⟨#[]⟩ : ByteArray)] 25 (0, 0))) := ⟨by rw [← hq_]; exact zE11_5⟩; have n3_ : Aside0 (Below w.heap.size w w97) := ⟨by rw [← hq_]; exact zE11_1⟩; clear BK304 BK305 BK306 HB hq_; have BK304 := n0_; have BK305 := n1_; have BK306 := n2_; have HB := n3_; clear n0_ n1_ n2_ n3_; have hcy304_0 : w97.cell? ⟨gb304, 0, none⟩ = some (.int .i64 a0_0) := (blk_cell BK304.out 0).trans rfl; have hfy304_0 := blk_frozen BK304.out 0; have hcy304_1 : w97.cell? ⟨gb304, 1, none⟩ = some (.int .i64 a0_1) := (blk_cell BK304.out 1).trans rfl; have hfy304_1 := blk_frozen BK304.out 1; have hcy304_2 : w97.cell? ⟨gb304, 2, none⟩ = some (.bool false) := (blk_cell BK304.out 2).trans rfl; have hfy304_2 := blk_frozen BK304.out 2; have hcy304_3 : w97.cell? ⟨gb304, 3, none⟩ = some (.int .i64 a0_3) := (blk_cell BK304.out 3).trans rfl; have hfy304_3 := blk_frozen BK304.out 3; have hcy304_4 : w97.cell? ⟨gb304, 4, none⟩ = some (.string a0_4) := (blk_cell BK304.out 4).trans rfl; have hfy304_4 := blk_frozen BK304.out 4; have hcy305_0 : w97.cell? ⟨gb305, 0, none⟩ = some (.int .i64 a1_0) := (blk_cell BK305.out 0).trans rfl; have hfy305_0 := blk_frozen BK305.out 0; have hcy305_1 : w97.cell? ⟨gb305, 1, none⟩ = some (.int .i64 a1_1) := (blk_cell BK305.out 1).trans rfl; have hfy305_1 := blk_frozen BK305.out 1; have hcy306_0 : w97.cell? ⟨gb306, 0, none⟩ = some (.int .i64 0) := (blk_cell BK306.out 0).trans rfl; have hfy306_0 := blk_frozen BK306.out 0; have hcy306_1 : w97.cell? ⟨gb306, 1, none⟩ = some (.int .i64 0) := (blk_cell BK306.out 1).trans rfl; have hfy306_1 := blk_frozen BK306.out 1; have hcy306_2 : w97.cell? ⟨gb306, 2, none⟩ = some (.bool false) := (blk_cell BK306.out 2).trans rfl; have hfy306_2 := blk_frozen BK306.out 2; have hcy306_3 : w97.cell? ⟨gb306, 3, none⟩ = some (.int .i64 0) := (blk_cell BK306.out 3).trans rfl; have hfy306_3 := blk_frozen BK306.out 3; have hcy306_4 : w97.cell? ⟨gb306, 4, none⟩ = some (.string (⟨#[]⟩ : ByteArray)) := (blk_cell BK306.out 4).trans rfl; have hfy306_4 := blk_frozen BK306.out 4))) | ((with_reducible refine gate_dst (N := 9) rfl ?_); refine box_event ?hg (N := 9) ?hd (cs := #[.int .i64 0, .int .i64 0, .bool false, .int .i64 0, .string (⟨#[]⟩ : ByteArray)]) (t := 25) ?hr ?_; (case hd => rfl); (case hg => rfl); (case hr => first | (go_simp; done) | (go_simp; rfl)); intro gb331 hg w101 hbox hb; have n0_ := Aside0.mk (blk_below (g := gb304) (o := .cells #[.int .i64 a0_0, .int .i64 a0_1, .bool false, .int .i64 a0_3, .string a0_4] 25 (0, 0)) zE11_2 hb); have n1_ := Aside0.mk (blk_below (g := gb305) (o := .cells #[.int .i64 a1_0, .int .i64 a1_1] 23 (0, 0)) zE11_4 hb); have n2_ := Aside0.mk (blk_below (g := gb306) (o := .cells #[.int .i64 0, .int .i64 0, .bool false, .int .i64 0, .string (⟨#[]⟩ : ByteArray)] 25 (0, 0)) zE11_5 hb); have n3_ := Aside0.mk (below_step zE11_1 hb); have n4_ := Aside0.mk (hbox); have n5_ := Aside0.mk ((by rw [hg]; exact (below_size zE11_1) : w.heap.size ≤ gb331)); have n6_ := Aside0.mk ((by rw [hg]; exact (below_size zE11_1) : w.heap.size ≤ gb331)); have n7_ := Aside0.mk ((by rw [hg]; exact Nat.ne_of_lt (blk_lt (g := gb304) (o := .cells #[.int .i64 a0_0, .int .i64 a0_1, .bool false, .int .i64 a0_3, .string a0_4] 25 (0, 0)) zE11_2) : gb304 ≠ gb331)); have n8_ := Aside0.mk ((by rw [hg]; exact Nat.ne_of_gt (blk_lt (g := gb304) (o := .cells #[.int .i64 a0_0, .int .i64 a0_1, .bool false, .int .i64 a0_3, .string a0_4] 25 (0, 0)) zE11_2) : gb331 ≠ gb304)); have n9_ := Aside0.mk ((zE11_15 : gb305 ≠ gb331)); have n10_ := Aside0.mk ((zE11_16 : gb331 ≠ gb305)); have n11_ := Aside0.mk ((by rw [hg]; exact Nat.ne_of_lt (blk_lt (g := gb306) (o := .cells #[.int .i64 0, .int .i64 0, .bool false, .int .i64 0, .string (⟨#[]⟩ : ByteArray)] 25 (0, 0)) zE11_5) : gb306 ≠ gb331)); have n12_ := Aside0.mk ((by rw [hg]; exact Nat.ne_of_gt (blk_lt (g := gb306) (o := .cells #[.int .i64 0, .int .i64 0, .bool false, .int .i64 0, .string (⟨#[]⟩ : ByteArray)] 25 (0, 0)) zE11_5) : gb331 ≠ gb306)); clear BK304; clear BK305; clear BK306; clear HB; have BK304 := n0_; have BK305 := n1_; have BK306 := n2_; have HB := n3_; have BK331 := n4_; have GW331 := n5_; have GE331 := n6_; have NB304_331 := n7_; have NB331_304 := n8_; have NB305_331 := n9_; have NB331_305 := n10_; have NB306_331 := n11_; have NB331_306 := n12_; clear n0_ n1_ n2_ n3_ n4_ n5_ n6_ n7_ n8_ n9_ n10_ n11_ n12_; clear hb hbox hg; have hnb102 := NB331_304.out; have hnc102 := NB304_331.out; have hnb103 := NB331_305.out; have hnc103 := NB305_331.out; have hnb104 := NB331_306.out; have hnc104 := NB306_331.out; have hcz105_0 : w101.cell? ⟨gb331, 0, none⟩ = some (.int .i64 0) := (blk_cell BK331.out 0).trans rfl; have hcz105_1 : w101.cell? ⟨gb331, 1, none⟩ = some (.int .i64 0) := (blk_cell BK331.out 1).trans rfl; have hcz105_2 : w101.cell? ⟨gb331, 2, none⟩ = some (.bool false) := (blk_cell BK331.out 2).trans rfl; have hcz105_3 : w101.cell? ⟨gb331, 3, none⟩ = some (.int .i64 0) := (blk_cell BK331.out 3).trans rfl; have hcz105_4 : w101.cell? ⟨gb331, 4, none⟩ = some (.string (⟨#[]⟩ : ByteArray)) := (blk_cell BK331.out 4).trans rfl; have hfz105_0 := blk_frozen BK331.out 0; have hfz105_1 := blk_frozen BK331.out 1; have hfz105_2 := blk_frozen BK331.out 2; have hfz105_3 := blk_frozen BK331.out 3; have hfz105_4 := blk_frozen BK331.out 4))
      (try simp only [Act.put, List.setIfInBounds_toArray, List.set_cons_zero, List.set_cons_succ])
      go_cut [64] (fun v64 wc => ∃ (kq : Nat) (x64_89 : Bool), v64 = .bool x64_89 ∧ Aside0 (colonnaderef02_Cast.j0 kq a0_0 x64_89 a0_0 a0_1 false a0_3 a0_4 a1_0 a1_1 a1_0 a1_1 false a0_3 (⟨#[]⟩ : ByteArray) = some (r1, r2, r3, r4, r5, r6)) ∧ Aside0 (kq ≤ k) ∧ Aside0 (wc.heap[gb304]? = some (.cells #[.int .i64 a0_0, .int .i64 a0_1, .bool false, .int .i64 a0_3, .string a0_4] 25 (0, 0))) ∧ Aside0 (wc.heap[gb305]? = some (.cells #[.int .i64 a1_0, .int .i64 a1_1] 23 (0, 0))) ∧ Aside0 (wc.heap[gb306]? = some (.cells #[.int .i64 0, .int .i64 0, .bool false, .int .i64 0, .string (⟨#[]⟩ : ByteArray)] 25 (0, 0))) ∧ Aside0 (wc.heap[gb331]? = some (.cells #[.int .i64 a1_0, .int .i64 a1_1, .bool false, .int .i64 a0_3, .string (⟨#[]⟩ : ByteArray)] 25 (0, 0))) ∧ Aside0 (Below w.heap.size w wc))
      case first =>
       have H := HC90.out
       clear HC90
       by_cases c106 : a0_0 = 3
       ·rw [if_pos c106] at H
        have c106b0 : (a0_0 == 3) = true := beq_iff_eq.mpr c106
        have c106b1 : (a0_0 != 3) = false := bne_eq_false_iff_eq.mpr c106
        clear c106
        (first | rw [c106b0] | (simp only [i64_w, i32_w]; rw [c106b0]) | skip)
        have H' := Aside0.mk H
        clear H
        go_wp2
        go_meet
        case rel => exact ⟨_, (true), zE11_11, H', ⟨by first | omega | exact Nat.le_refl _⟩, ⟨by (with_reducible repeat (first | refine blk_drewN ?_ _ | refine blk_drew ?_ | refine blk_alloc ?_ _)); refine blk_far ?_ NB304_331.out _; (with_reducible repeat (first | refine blk_drewN ?_ _ | refine blk_drew ?_ | refine blk_alloc ?_ _)); refine blk_far ?_ NB304_331.out _; (with_reducible repeat (first | refine blk_drewN ?_ _ | refine blk_drew ?_ | refine blk_alloc ?_ _)); refine blk_far ?_ NB304_331.out _; (with_reducible repeat (first | refine blk_drewN ?_ _ | refine blk_drew ?_ | refine blk_alloc ?_ _)); refine blk_far ?_ NB304_331.out _; (with_reducible repeat (first | refine blk_drewN ?_ _ | refine blk_drew ?_ | refine blk_alloc ?_ _)); refine blk_far ?_ NB304_331.out _; (with_reducible repeat (first | refine blk_drewN ?_ _ | refine blk_drew ?_ | refine blk_alloc ?_ _)); exact BK304.out⟩, ⟨by (with_reducible repeat (first | refine blk_drewN ?_ _ | refine blk_drew ?_ | refine blk_alloc ?_ _)); refine blk_far ?_ NB305_331.out _; (with_reducible repeat (first | refine blk_drewN ?_ _ | refine blk_drew ?_ | refine blk_alloc ?_ _)); refine blk_far ?_ NB305_331.out _; (with_reducible repeat (first | refine blk_drewN ?_ _ | refine blk_drew ?_ | refine blk_alloc ?_ _)); refine blk_far ?_ NB305_331.out _; (with_reducible repeat (first | refine blk_drewN ?_ _ | refine blk_drew ?_ | refine blk_alloc ?_ _)); refine blk_far ?_ NB305_331.out _; (with_reducible repeat (first | refine blk_drewN ?_ _ | refine blk_drew ?_ | refine blk_alloc ?_ _)); refine blk_far ?_ NB305_331.out _; (with_reducible repeat (first | refine blk_drewN ?_ _ | refine blk_drew ?_ | refine blk_alloc ?_ _)); exact BK305.out⟩, ⟨by (with_reducible repeat (first | refine blk_drewN ?_ _ | refine blk_drew ?_ | refine blk_alloc ?_ _)); refine blk_far ?_ NB306_331.out _; (with_reducible repeat (first | refine blk_drewN ?_ _ | refine blk_drew ?_ | refine blk_alloc ?_ _)); refine blk_far ?_ NB306_331.out _; (with_reducible repeat (first | refine blk_drewN ?_ _ | refine blk_drew ?_ | refine blk_alloc ?_ _)); refine blk_far ?_ NB306_331.out _; (with_reducible repeat (first | refine blk_drewN ?_ _ | refine blk_drew ?_ | refine blk_alloc ?_ _)); refine blk_far ?_ NB306_331.out _; (with_reducible repeat (first | refine blk_drewN ?_ _ | refine blk_drew ?_ | refine blk_alloc ?_ _)); refine blk_far ?_ NB306_331.out _; (with_reducible repeat (first | refine blk_drewN ?_ _ | refine blk_drew ?_ | refine blk_alloc ?_ _)); exact BK306.out⟩, ⟨by (with_reducible repeat (first | refine blk_drewN ?_ _ | refine blk_drew ?_ | refine blk_alloc ?_ _)); refine blk_put (cs := #[.int .i64 a1_0, .int .i64 a1_1, .bool false, .int .i64 a0_3, .string (⟨#[]⟩ : ByteArray)]) ?_ 4 _ rfl; (with_reducible repeat (first | refine blk_drewN ?_ _ | refine blk_drew ?_ | refine blk_alloc ?_ _)); refine blk_put (cs := #[.int .i64 a1_0, .int .i64 a1_1, .bool false, .int .i64 0, .string (⟨#[]⟩ : ByteArray)]) ?_ 3 _ rfl; (with_reducible repeat (first | refine blk_drewN ?_ _ | refine blk_drew ?_ | refine blk_alloc ?_ _)); refine blk_put (cs := #[.int .i64 a1_0, .int .i64 a1_1, .bool false, .int .i64 0, .string (⟨#[]⟩ : ByteArray)]) ?_ 2 _ rfl; (with_reducible repeat (first | refine blk_drewN ?_ _ | refine blk_drew ?_ | refine blk_alloc ?_ _)); refine blk_put (cs := #[.int .i64 a1_0, .int .i64 0, .bool false, .int .i64 0, .string (⟨#[]⟩ : ByteArray)]) ?_ 1 _ rfl; (with_reducible repeat (first | refine blk_drewN ?_ _ | refine blk_drew ?_ | refine blk_alloc ?_ _)); refine blk_put (cs := #[.int .i64 0, .int .i64 0, .bool false, .int .i64 0, .string (⟨#[]⟩ : ByteArray)]) ?_ 0 _ rfl; (with_reducible repeat (first | refine blk_drewN ?_ _ | refine blk_drew ?_ | refine blk_alloc ?_ _)); exact BK331.out⟩, ⟨by repeat (first | (with_reducible first | exact HB.out | apply below_alloc | apply pw_below_drewN | apply below_drew1 | refine below_set ?_ GE304.out | refine below_set ?_ GE305.out | refine below_set ?_ GE306.out | refine below_set ?_ GE331.out) | exact HB.out)⟩⟩
       ·rw [if_neg c106] at H
        have c106b0 : (a0_0 == 3) = false := beq_eq_false_iff_ne.mpr c106
        have c106b1 : (a0_0 != 3) = true := bne_iff_ne.mpr c106
        (first | rw [c106b0] | (simp only [i64_w, i32_w]; rw [c106b0]) | skip)
        have H' := Aside0.mk H
        clear H
        have hnb107 := NB305_304.out
        have hnc107 := NB304_305.out
        have hnb108 := NB305_306.out
        have hnc108 := NB306_305.out
        have hnb109 := NB305_331.out
        have hnc109 := NB331_305.out
        have hcz110_0 : w101.cell? ⟨gb305, 0, none⟩ = some (.int .i64 a1_0) := (blk_cell BK305.out 0).trans rfl
        have hcz110_1 : w101.cell? ⟨gb305, 1, none⟩ = some (.int .i64 a1_1) := (blk_cell BK305.out 1).trans rfl
        have hfz110_0 := blk_frozen BK305.out 0
        have hfz110_1 := blk_frozen BK305.out 1
        go_wp2
        go_meet
        case rel => exact ⟨_, ((a1_0 == 3)), zE11_11, H', ⟨by first | omega | exact Nat.le_refl _⟩, ⟨by (with_reducible repeat (first | refine blk_drewN ?_ _ | refine blk_drew ?_ | refine blk_alloc ?_ _)); refine blk_far ?_ NB304_331.out _; (with_reducible repeat (first | refine blk_drewN ?_ _ | refine blk_drew ?_ | refine blk_alloc ?_ _)); refine blk_far ?_ NB304_331.out _; (with_reducible repeat (first | refine blk_drewN ?_ _ | refine blk_drew ?_ | refine blk_alloc ?_ _)); refine blk_far ?_ NB304_331.out _; (with_reducible repeat (first | refine blk_drewN ?_ _ | refine blk_drew ?_ | refine blk_alloc ?_ _)); refine blk_far ?_ NB304_331.out _; (with_reducible repeat (first | refine blk_drewN ?_ _ | refine blk_drew ?_ | refine blk_alloc ?_ _)); refine blk_far ?_ NB304_331.out _; (with_reducible repeat (first | refine blk_drewN ?_ _ | refine blk_drew ?_ | refine blk_alloc ?_ _)); exact BK304.out⟩, ⟨by (with_reducible repeat (first | refine blk_drewN ?_ _ | refine blk_drew ?_ | refine blk_alloc ?_ _)); refine blk_far ?_ NB305_331.out _; (with_reducible repeat (first | refine blk_drewN ?_ _ | refine blk_drew ?_ | refine blk_alloc ?_ _)); refine blk_far ?_ NB305_331.out _; (with_reducible repeat (first | refine blk_drewN ?_ _ | refine blk_drew ?_ | refine blk_alloc ?_ _)); refine blk_far ?_ NB305_331.out _; (with_reducible repeat (first | refine blk_drewN ?_ _ | refine blk_drew ?_ | refine blk_alloc ?_ _)); refine blk_far ?_ NB305_331.out _; (with_reducible repeat (first | refine blk_drewN ?_ _ | refine blk_drew ?_ | refine blk_alloc ?_ _)); refine blk_far ?_ NB305_331.out _; (with_reducible repeat (first | refine blk_drewN ?_ _ | refine blk_drew ?_ | refine blk_alloc ?_ _)); exact BK305.out⟩, ⟨by (with_reducible repeat (first | refine blk_drewN ?_ _ | refine blk_drew ?_ | refine blk_alloc ?_ _)); refine blk_far ?_ NB306_331.out _; (with_reducible repeat (first | refine blk_drewN ?_ _ | refine blk_drew ?_ | refine blk_alloc ?_ _)); refine blk_far ?_ NB306_331.out _; (with_reducible repeat (first | refine blk_drewN ?_ _ | refine blk_drew ?_ | refine blk_alloc ?_ _)); refine blk_far ?_ NB306_331.out _; (with_reducible repeat (first | refine blk_drewN ?_ _ | refine blk_drew ?_ | refine blk_alloc ?_ _)); refine blk_far ?_ NB306_331.out _; (with_reducible repeat (first | refine blk_drewN ?_ _ | refine blk_drew ?_ | refine blk_alloc ?_ _)); refine blk_far ?_ NB306_331.out _; (with_reducible repeat (first | refine blk_drewN ?_ _ | refine blk_drew ?_ | refine blk_alloc ?_ _)); exact BK306.out⟩, ⟨by (with_reducible repeat (first | refine blk_drewN ?_ _ | refine blk_drew ?_ | refine blk_alloc ?_ _)); refine blk_put (cs := #[.int .i64 a1_0, .int .i64 a1_1, .bool false, .int .i64 a0_3, .string (⟨#[]⟩ : ByteArray)]) ?_ 4 _ rfl; (with_reducible repeat (first | refine blk_drewN ?_ _ | refine blk_drew ?_ | refine blk_alloc ?_ _)); refine blk_put (cs := #[.int .i64 a1_0, .int .i64 a1_1, .bool false, .int .i64 0, .string (⟨#[]⟩ : ByteArray)]) ?_ 3 _ rfl; (with_reducible repeat (first | refine blk_drewN ?_ _ | refine blk_drew ?_ | refine blk_alloc ?_ _)); refine blk_put (cs := #[.int .i64 a1_0, .int .i64 a1_1, .bool false, .int .i64 0, .string (⟨#[]⟩ : ByteArray)]) ?_ 2 _ rfl; (with_reducible repeat (first | refine blk_drewN ?_ _ | refine blk_drew ?_ | refine blk_alloc ?_ _)); refine blk_put (cs := #[.int .i64 a1_0, .int .i64 0, .bool false, .int .i64 0, .string (⟨#[]⟩ : ByteArray)]) ?_ 1 _ rfl; (with_reducible repeat (first | refine blk_drewN ?_ _ | refine blk_drew ?_ | refine blk_alloc ?_ _)); refine blk_put (cs := #[.int .i64 0, .int .i64 0, .bool false, .int .i64 0, .string (⟨#[]⟩ : ByteArray)]) ?_ 0 _ rfl; (with_reducible repeat (first | refine blk_drewN ?_ _ | refine blk_drew ?_ | refine blk_alloc ?_ _)); exact BK331.out⟩, ⟨by repeat (first | (with_reducible first | exact HB.out | apply below_alloc | apply pw_below_drewN | apply below_drew1 | refine below_set ?_ GE304.out | refine below_set ?_ GE305.out | refine below_set ?_ GE306.out | refine below_set ?_ GE331.out) | exact HB.out)⟩⟩
      case rest =>
       clear HC90
       (try clear c4); (try clear c4b0); (try clear c4b1); (try clear c6); (try clear c7); (try clear c21); (try clear c21b0); (try clear c21b1); (try clear c76); (try clear c76b0); (try clear c76b1); (try clear hcz100_0); (try clear hcz100_1); (try clear hcz105_0); (try clear hcz105_1); (try clear hcz105_2); (try clear hcz105_3); (try clear hcz105_4); (try clear hcz14_0); (try clear hcz14_1); (try clear hcz14_0); (try clear hcz14_1); (try clear hcz99_0); (try clear hcz99_1); (try clear hcz99_2); (try clear hcz99_3); (try clear hcz99_4); (try clear hfz100_0); (try clear hfz100_1); (try clear hfz105_0)
       (try clear hfz105_1); (try clear hfz105_2); (try clear hfz105_3); (try clear hfz105_4); (try clear hfz14_0); (try clear hfz14_1); (try clear hfz14_0); (try clear hfz14_1); (try clear hfz99_0); (try clear hfz99_1); (try clear hfz99_2); (try clear hfz99_3); (try clear hfz99_4)
       obtain ⟨kq, x64_89, rfl, HA, HJ89, BK304, BK305, BK306, BK331, HB⟩ := hcut
       cases kq with
       | zero => exact absurd HA.out (by simp [colonnaderef02_Cast.j0])
       | succ kj89 =>
        have H := HA.out
        clear HA
        simp only [colonnaderef02_Cast.j0] at H
        by_cases c111 : x64_89 = true
        ·subst c111
         have H1 : (if a0_0 = 3 then (if a0_1 < 0 then (colonnaderef02_Cast.j1 kj89 true a0_0 a0_1 false a0_3 a0_4 a1_0 a1_1 a1_0 a1_1 false a0_3 (⟨#[]⟩ : ByteArray)) else (colonnaderef02_Cast.j1 kj89 (decide (a0_1 > 18)) a0_0 a0_1 false a0_3 a0_4 a1_0 a1_1 a1_0 a1_1 false a0_3 (⟨#[]⟩ : ByteArray))) else (colonnaderef02_Cast.j1 kj89 false a0_0 a0_1 false a0_3 a0_4 a1_0 a1_1 a1_0 a1_1 false a0_3 (⟨#[]⟩ : ByteArray))) = some (r1, r2, r3, r4, r5, r6) := by rw [if_pos rfl] at H; exact H
         clear H
         have H := H1
         clear H1
         have HC112 := Aside0.mk H
         clear H
         go_upto_region 20 with (fail)
         go_cut [78] (fun v78 wc => ∃ (kq : Nat) (x78_111 : Bool), v78 = .bool x78_111 ∧ Aside0 (colonnaderef02_Cast.j1 kq x78_111 a0_0 a0_1 false a0_3 a0_4 a1_0 a1_1 a1_0 a1_1 false a0_3 (⟨#[]⟩ : ByteArray) = some (r1, r2, r3, r4, r5, r6)) ∧ Aside0 (kq ≤ kj89) ∧ Aside0 (wc.heap[gb304]? = some (.cells #[.int .i64 a0_0, .int .i64 a0_1, .bool false, .int .i64 a0_3, .string a0_4] 25 (0, 0))) ∧ Aside0 (wc.heap[gb305]? = some (.cells #[.int .i64 a1_0, .int .i64 a1_1] 23 (0, 0))) ∧ Aside0 (wc.heap[gb306]? = some (.cells #[.int .i64 0, .int .i64 0, .bool false, .int .i64 0, .string (⟨#[]⟩ : ByteArray)] 25 (0, 0))) ∧ Aside0 (wc.heap[gb331]? = some (.cells #[.int .i64 a1_0, .int .i64 a1_1, .bool false, .int .i64 a0_3, .string (⟨#[]⟩ : ByteArray)] 25 (0, 0))) ∧ Aside0 (Below w.heap.size w wc))
         case first =>
          have H := HC112.out
          clear HC112
          by_cases c113 : a0_0 = 3
          ·rw [if_pos c113] at H
           have c113b0 : (a0_0 == 3) = true := beq_iff_eq.mpr c113
           have c113b1 : (a0_0 != 3) = false := bne_eq_false_iff_eq.mpr c113
           clear c113
           (first | rw [c113b0] | (simp only [i64_w, i32_w]; rw [c113b0]) | skip)
           by_cases c114 : a0_1 < 0
           ·rw [if_pos c114] at H
            have c114b0 : decide (a0_1 < 0) = true := decide_eq_true c114
            clear c114
            have H' := Aside0.mk H
            clear H
            have hnb115 := NB304_305.out
            have hnc115 := NB305_304.out
            have hnb116 := NB304_306.out
            have hnc116 := NB306_304.out
            have hnb117 := NB304_331.out
            have hnc117 := NB331_304.out
            have hcz118_0 : wc.cell? ⟨gb304, 0, none⟩ = some (.int .i64 a0_0) := (blk_cell BK304.out 0).trans rfl
            have hcz118_1 : wc.cell? ⟨gb304, 1, none⟩ = some (.int .i64 a0_1) := (blk_cell BK304.out 1).trans rfl
            have hcz118_2 : wc.cell? ⟨gb304, 2, none⟩ = some (.bool false) := (blk_cell BK304.out 2).trans rfl
            have hcz118_3 : wc.cell? ⟨gb304, 3, none⟩ = some (.int .i64 a0_3) := (blk_cell BK304.out 3).trans rfl
            have hcz118_4 : wc.cell? ⟨gb304, 4, none⟩ = some (.string a0_4) := (blk_cell BK304.out 4).trans rfl
            have hfz118_0 := blk_frozen BK304.out 0
            have hfz118_1 := blk_frozen BK304.out 1
            have hfz118_2 := blk_frozen BK304.out 2
            have hfz118_3 := blk_frozen BK304.out 3
            have hfz118_4 := blk_frozen BK304.out 4
            go_wp2
            go_meet
            case rel => exact ⟨_, (true), zE11_11, H', ⟨by have := HJ89.out; first | omega | exact Nat.le_refl _⟩, ⟨by (with_reducible repeat (first | refine blk_drewN ?_ _ | refine blk_drew ?_ | refine blk_alloc ?_ _)); exact BK304.out⟩, ⟨by (with_reducible repeat (first | refine blk_drewN ?_ _ | refine blk_drew ?_ | refine blk_alloc ?_ _)); exact BK305.out⟩, ⟨by (with_reducible repeat (first | refine blk_drewN ?_ _ | refine blk_drew ?_ | refine blk_alloc ?_ _)); exact BK306.out⟩, ⟨by (with_reducible repeat (first | refine blk_drewN ?_ _ | refine blk_drew ?_ | refine blk_alloc ?_ _)); exact BK331.out⟩, ⟨by repeat (first | (with_reducible first | exact HB.out | apply below_alloc | apply pw_below_drewN | apply below_drew1 | refine below_set ?_ GE304.out | refine below_set ?_ GE305.out | refine below_set ?_ GE306.out | refine below_set ?_ GE331.out) | exact HB.out)⟩⟩
           ·rw [if_neg c114] at H
            have c114b0 : decide (a0_1 < 0) = false := decide_eq_false c114
            clear c114
            have H' := Aside0.mk H
            clear H
            have hnb119 := NB304_305.out
            have hnc119 := NB305_304.out
            have hnb120 := NB304_306.out
            have hnc120 := NB306_304.out
            have hnb121 := NB304_331.out
            have hnc121 := NB331_304.out
            have hcz122_0 : wc.cell? ⟨gb304, 0, none⟩ = some (.int .i64 a0_0) := (blk_cell BK304.out 0).trans rfl
            have hcz122_1 : wc.cell? ⟨gb304, 1, none⟩ = some (.int .i64 a0_1) := (blk_cell BK304.out 1).trans rfl
            have hcz122_2 : wc.cell? ⟨gb304, 2, none⟩ = some (.bool false) := (blk_cell BK304.out 2).trans rfl
            have hcz122_3 : wc.cell? ⟨gb304, 3, none⟩ = some (.int .i64 a0_3) := (blk_cell BK304.out 3).trans rfl
            have hcz122_4 : wc.cell? ⟨gb304, 4, none⟩ = some (.string a0_4) := (blk_cell BK304.out 4).trans rfl
            have hfz122_0 := blk_frozen BK304.out 0
            have hfz122_1 := blk_frozen BK304.out 1
            have hfz122_2 := blk_frozen BK304.out 2
            have hfz122_3 := blk_frozen BK304.out 3
            have hfz122_4 := blk_frozen BK304.out 4
            go_wp2
            go_meet
            case rel => exact ⟨_, (decide (a0_1 > 18)), zE11_11, H', ⟨by have := HJ89.out; first | omega | exact Nat.le_refl _⟩, ⟨by (with_reducible repeat (first | refine blk_drewN ?_ _ | refine blk_drew ?_ | refine blk_alloc ?_ _)); exact BK304.out⟩, ⟨by (with_reducible repeat (first | refine blk_drewN ?_ _ | refine blk_drew ?_ | refine blk_alloc ?_ _)); exact BK305.out⟩, ⟨by (with_reducible repeat (first | refine blk_drewN ?_ _ | refine blk_drew ?_ | refine blk_alloc ?_ _)); exact BK306.out⟩, ⟨by (with_reducible repeat (first | refine blk_drewN ?_ _ | refine blk_drew ?_ | refine blk_alloc ?_ _)); exact BK331.out⟩, ⟨by repeat (first | (with_reducible first | exact HB.out | apply below_alloc | apply pw_below_drewN | apply below_drew1 | refine below_set ?_ GE304.out | refine below_set ?_ GE305.out | refine below_set ?_ GE306.out | refine below_set ?_ GE331.out) | exact HB.out)⟩⟩
          ·rw [if_neg c113] at H
           have c113b0 : (a0_0 == 3) = false := beq_eq_false_iff_ne.mpr c113
           have c113b1 : (a0_0 != 3) = true := bne_iff_ne.mpr c113
           (first | rw [c113b0] | (simp only [i64_w, i32_w]; rw [c113b0]) | skip)
           have H' := Aside0.mk H
           clear H
           go_wp2
           go_meet
           case rel => exact ⟨_, (false), zE11_11, H', ⟨by have := HJ89.out; first | omega | exact Nat.le_refl _⟩, ⟨by (with_reducible repeat (first | refine blk_drewN ?_ _ | refine blk_drew ?_ | refine blk_alloc ?_ _)); exact BK304.out⟩, ⟨by (with_reducible repeat (first | refine blk_drewN ?_ _ | refine blk_drew ?_ | refine blk_alloc ?_ _)); exact BK305.out⟩, ⟨by (with_reducible repeat (first | refine blk_drewN ?_ _ | refine blk_drew ?_ | refine blk_alloc ?_ _)); exact BK306.out⟩, ⟨by (with_reducible repeat (first | refine blk_drewN ?_ _ | refine blk_drew ?_ | refine blk_alloc ?_ _)); exact BK331.out⟩, ⟨by repeat (first | (with_reducible first | exact HB.out | apply below_alloc | apply pw_below_drewN | apply below_drew1 | refine below_set ?_ GE304.out | refine below_set ?_ GE305.out | refine below_set ?_ GE306.out | refine below_set ?_ GE331.out) | exact HB.out)⟩⟩
         case rest =>
          clear HC112
          (try clear c4); (try clear c4b0); (try clear c4b1); (try clear c6); (try clear c7); (try clear c21); (try clear c21b0); (try clear c21b1); (try clear c76); (try clear c76b0); (try clear c76b1); (try clear c111); (try clear hcz100_0); (try clear hcz100_1); (try clear hcz105_0); (try clear hcz105_1); (try clear hcz105_2); (try clear hcz105_3); (try clear hcz105_4); (try clear hcz14_0); (try clear hcz14_1); (try clear hcz14_0); (try clear hcz14_1); (try clear hcz99_0); (try clear hcz99_1); (try clear hcz99_2); (try clear hcz99_3); (try clear hcz99_4); (try clear hfz100_0); (try clear hfz100_1)
          (try clear hfz105_0); (try clear hfz105_1); (try clear hfz105_2); (try clear hfz105_3); (try clear hfz105_4); (try clear hfz14_0); (try clear hfz14_1); (try clear hfz14_0); (try clear hfz14_1); (try clear hfz99_0); (try clear hfz99_1); (try clear hfz99_2); (try clear hfz99_3); (try clear hfz99_4)
          obtain ⟨kq, x78_111, rfl, HA, HJ111, BK304, BK305, BK306, BK331, HB⟩ := hcut
          cases kq with
          | zero => exact absurd HA.out (by simp [colonnaderef02_Cast.j1])
          | succ kj111 =>
           have H := HA.out
           clear HA
           simp only [colonnaderef02_Cast.j1] at H
           by_cases c123 : x78_111 = true
           ·subst c123
            have H1 : (some (0, 0, false, 0, (⟨#[]⟩ : ByteArray), 10)) = some (r1, r2, r3, r4, r5, r6) := by rw [if_pos rfl] at H; exact H
            clear H
            have H := H1
            clear H1
            simp only [Option.some.injEq, Prod.mk.injEq] at H
            obtain ⟨rfl, rfl, rfl, rfl, rfl, rfl⟩ := H
            have hnb124 := NB306_304.out
            have hnc124 := NB304_306.out
            have hnb125 := NB306_305.out
            have hnc125 := NB305_306.out
            have hnb126 := NB306_331.out
            have hnc126 := NB331_306.out
            have hcz127_0 : wc.cell? ⟨gb306, 0, none⟩ = some (.int .i64 0) := (blk_cell BK306.out 0).trans rfl
            have hcz127_1 : wc.cell? ⟨gb306, 1, none⟩ = some (.int .i64 0) := (blk_cell BK306.out 1).trans rfl
            have hcz127_2 : wc.cell? ⟨gb306, 2, none⟩ = some (.bool false) := (blk_cell BK306.out 2).trans rfl
            have hcz127_3 : wc.cell? ⟨gb306, 3, none⟩ = some (.int .i64 0) := (blk_cell BK306.out 3).trans rfl
            have hcz127_4 : wc.cell? ⟨gb306, 4, none⟩ = some (.string (⟨#[]⟩ : ByteArray)) := (blk_cell BK306.out 4).trans rfl
            have hfz127_0 := blk_frozen BK306.out 0
            have hfz127_1 := blk_frozen BK306.out 1
            have hfz127_2 := blk_frozen BK306.out 2
            have hfz127_3 := blk_frozen BK306.out 3
            have hfz127_4 := blk_frozen BK306.out 4
            go_wp2
            refine bodyPost_ret (results_ct rfl _ _ gb306 25 #[.int .i64 0, .int .i64 0, .bool false, .int .i64 0, .string (⟨#[]⟩ : ByteArray)] (0, 0) _ rfl zE11_0 Tryz.underlying25 rfl zE11_6) rfl ?_
            exact ⟨by first | rfl | (simp [errW_none, errW_some] <;> rfl) | (simp [*, errW_none, errW_some] <;> rfl), by repeat (first | (with_reducible first | exact HB.out | apply below_alloc | apply pw_below_drewN | apply below_drew1 | refine below_set ?_ GE304.out | refine below_set ?_ GE305.out | refine below_set ?_ GE306.out | refine below_set ?_ GE331.out) | exact HB.out)⟩
           ·replace c123 := Bool.eq_false_iff.mpr c123
            subst c123
            have H1 : ((colonnaderef02_scale.f a0_0 a0_1 false a0_3 a0_4).bind fun t332 => ((colonnaderef01_Scale.f kj111 a0_3 t332 a1_1).bind fun bt333 => (if bt333.2 = 0 then (some (a1_0, a1_1, false, bt333.1, (⟨#[]⟩ : ByteArray), 0)) else (some (0, 0, false, 0, (⟨#[]⟩ : ByteArray), bt333.2))))) = some (r1, r2, r3, r4, r5, r6) := by rw [if_neg (show ¬ (false = true) by decide)] at H; exact H
            clear H
            have H := H1
            clear H1
            replace H := Option.bind_eq_some_iff.mp H
            obtain ⟨t332, A1280, H⟩ := H
            replace H : ((colonnaderef01_Scale.f kj111 a0_3 t332 a1_1).bind fun bt333 => (if bt333.2 = 0 then (some (a1_0, a1_1, false, bt333.1, (⟨#[]⟩ : ByteArray), 0)) else (some (0, 0, false, 0, (⟨#[]⟩ : ByteArray), bt333.2)))) = some (r1, r2, r3, r4, r5, r6) := H
            have A128 := Aside0.mk A1280
            clear A1280
            replace H := Option.bind_eq_some_iff.mp H
            obtain ⟨⟨t333, t334⟩, A1290, H⟩ := H
            replace H : (if t334 = 0 then (some (a1_0, a1_1, false, t333, (⟨#[]⟩ : ByteArray), 0)) else (some (0, 0, false, 0, (⟨#[]⟩ : ByteArray), t334))) = some (r1, r2, r3, r4, r5, r6) := H
            have A129 := Aside0.mk A1290
            clear A1290
            by_cases c130 : t334 = 0
            ·rw [if_pos c130] at H
             have c130b0 : (t334 == 0) = true := beq_iff_eq.mpr c130
             have c130b1 : (t334 != 0) = false := bne_eq_false_iff_eq.mpr c130
             clear c130
             simp only [Option.some.injEq, Prod.mk.injEq] at H
             obtain ⟨rfl, rfl, rfl, rfl, rfl, rfl⟩ := H
             try go_wp2
             have n0_ := Aside0.mk (blk_drew BK304.out)
             have n1_ := Aside0.mk (blk_drew BK305.out)
             have n2_ := Aside0.mk (blk_drew BK306.out)
             have n3_ := Aside0.mk (blk_drew BK331.out)
             have n4_ := Aside0.mk (below_drew1 HB.out)
             clear BK304
             clear BK305
             clear BK306
             clear BK331
             clear HB
             have BK304 := n0_
             have BK305 := n1_
             have BK306 := n2_
             have BK331 := n3_
             have HB := n4_
             clear n0_ n1_ n2_ n3_ n4_
             refine start_ (n := 12) (S := fun w' => w'.cell? ⟨gb304, 0, none⟩ = some (.int .i64 a0_0) ∧ w'.cell? ⟨gb304, 1, none⟩ = some (.int .i64 a0_1) ∧ w'.cell? ⟨gb304, 2, none⟩ = some (.bool false) ∧ w'.cell? ⟨gb304, 3, none⟩ = some (.int .i64 a0_3) ∧ w'.cell? ⟨gb304, 4, none⟩ = some (.string a0_4) ∧ w'.cell? ⟨gb305, 0, none⟩ = some (.int .i64 a1_0) ∧ w'.cell? ⟨gb305, 1, none⟩ = some (.int .i64 a1_1)) (ds := []) #[false, false, false, false, false, false, false, false, false, false, false, false] zE11_6 rfl rfl ⟨(blk_cell BK304.out 0).trans rfl, (blk_cell BK304.out 1).trans rfl, (blk_cell BK304.out 2).trans rfl, (blk_cell BK304.out 3).trans rfl, (blk_cell BK304.out 4).trans rfl, (blk_cell BK305.out 0).trans rfl, (blk_cell BK305.out 1).trans rfl⟩ (fun hHeld => ?_); refine with_tabW colonnaderef02_Cast.tab22 colonnaderef02_Cast.bits22 (fun HT_ HW_ => ?_)
             generalize wc.drew = w131 at BK304 BK305 BK306 BK331 HB hHeld ⊢
             refine pure_ (i := 0) (N := some 81) (v := ?_) (a' := ?_) #[true, false, false, false, false, false, false, false, false, false, false, false] rfl rfl (any_of HT_.out zE11_6) (fun _ _ _ h => h) (Or.inl ⟨by rfl, ?_⟩) ?_ ?_
             rotate_left
             ·intro w'
              go_simp
              with_reducible rfl
             rotate_left
             ·simp only [Act.put, List.setIfInBounds_toArray, List.set_cons_zero, List.set_cons_succ, i64_w, i32_w]
              rfl
             refine pure_ (i := 4) (N := some 85) (v := ?_) (a' := ?_) #[true, false, false, false, true, false, false, false, false, false, false, false] rfl rfl (any_of HT_.out zE11_6) (fun _ _ _ h => h) (Or.inl ⟨by rfl, ?_⟩) ?_ ?_
             rotate_left
             ·intro w'
              go_simp
              with_reducible rfl
             rotate_left
             ·simp only [Act.put, List.setIfInBounds_toArray, List.set_cons_zero, List.set_cons_succ, i64_w, i32_w]
              rfl
             refine take_ (i := 1) (N := some 82) (v := ?_) (a' := ?_) #[true, true, false, false, true, false, false, false, false, false, false, false] rfl rfl (take_ofW HT_.out HW_.out zE11_6) (fun _ _ _ h => h) (Or.inl ⟨by rfl, ?_⟩) hHeld ?_ ?_
             rotate_left
             ·rintro w' ⟨s0, s1, s2, s3, s4, s5, s6⟩
              go_simp
              with_reducible rfl
             rotate_left
             ·simp only [Act.put, List.setIfInBounds_toArray, List.set_cons_zero, List.set_cons_succ, i64_w, i32_w]
              rfl
             refine take_ (i := 2) (N := some 83) (v := ?_) (a' := ?_) #[true, true, true, false, true, false, false, false, false, false, false, false] rfl rfl (take_ofW HT_.out HW_.out zE11_6) (fun _ _ _ h => h) (Or.inl ⟨by rfl, ?_⟩) hHeld ?_ ?_
             rotate_left
             ·rintro w' ⟨s0, s1, s2, s3, s4, s5, s6⟩
              go_simp
              with_reducible rfl
             rotate_left
             ·simp only [Act.put, List.setIfInBounds_toArray, List.set_cons_zero, List.set_cons_succ, i64_w, i32_w]
              rfl
             refine take_ (i := 5) (N := some 86) (v := ?_) (a' := ?_) #[true, true, true, false, true, true, false, false, false, false, false, false] rfl rfl (take_ofW HT_.out HW_.out zE11_6) (fun _ _ _ h => h) (Or.inl ⟨by rfl, ?_⟩) hHeld ?_ ?_
             rotate_left
             ·rintro w' ⟨s0, s1, s2, s3, s4, s5, s6⟩
              go_simp
              with_reducible rfl
             rotate_left
             ·simp only [Act.put, List.setIfInBounds_toArray, List.set_cons_zero, List.set_cons_succ, i64_w, i32_w]
              rfl
             refine one_ (i := 3) (N := some 84) #[true, true, true, true, true, true, false, false, false, false, false, false] rfl rfl (one_of HT_.out zE11_6) (by decide) (fun K hK => ?_)
             refine goes_ Tryz.func24 zE11_6 rfl #[.agg #[.int .i64 a0_0, .int .i64 a0_1, .bool false, .int .i64 a0_3, .string a0_4]] (by rfl) rfl rfl zE11_3 ?_
             with_reducible refine (colonnaderef02_scale.calls a0_0 a0_1 false a0_3 a0_4 t332 _ A128.out).mono ?_
             rintro e w132 ⟨rfl, hb⟩
             refine ⟨_, rfl, ?_⟩
             have n0_ := Aside0.mk (blk_below (g := gb304) (o := .cells #[.int .i64 a0_0, .int .i64 a0_1, .bool false, .int .i64 a0_3, .string a0_4] 25 (0, 0)) zE11_2 hb)
             have n1_ := Aside0.mk (blk_below (g := gb305) (o := .cells #[.int .i64 a1_0, .int .i64 a1_1] 23 (0, 0)) zE11_4 hb)
             have n2_ := Aside0.mk (blk_below (g := gb306) (o := .cells #[.int .i64 0, .int .i64 0, .bool false, .int .i64 0, .string (⟨#[]⟩ : ByteArray)] 25 (0, 0)) zE11_5 hb)
             have n3_ := Aside0.mk (blk_below (g := gb331) (o := .cells #[.int .i64 a1_0, .int .i64 a1_1, .bool false, .int .i64 a0_3, .string (⟨#[]⟩ : ByteArray)] 25 (0, 0)) zE11_12 hb)
             have n4_ := Aside0.mk (below_step zE11_8 hb)
             clear BK304
             clear BK305
             clear BK306
             clear BK331
             clear HB
             have BK304 := n0_
             have BK305 := n1_
             have BK306 := n2_
             have BK331 := n3_
             have HB := n4_
             clear n0_ n1_ n2_ n3_ n4_
             (try clear hb)
             (try clear hb2)
             (try clear hk)
             (try clear hi)
             refine hK.out _ _ ⟨(blk_cell BK304.out 0).trans rfl, (blk_cell BK304.out 1).trans rfl, (blk_cell BK304.out 2).trans rfl, (blk_cell BK304.out 3).trans rfl, (blk_cell BK304.out 4).trans rfl, (blk_cell BK305.out 0).trans rfl, (blk_cell BK305.out 1).trans rfl⟩ (fun hHeld => ?_)
             clear hK K
             refine norm_ (a' := ?_) ?_ ?_
             rotate_left
             ·show Act.put _ (some 84) _ = _
              simp only [Act.put, List.setIfInBounds_toArray, List.set_cons_zero, List.set_cons_succ, i64_w, i32_w]
              rfl
             refine one_ (i := 6) (N := some 87) #[true, true, true, true, true, true, true, false, false, false, false, false] rfl rfl (one_of HT_.out zE11_6) (by decide) (fun K hK => ?_)
             refine goes_ Tryz.func23 zE11_6 rfl #[.int .i64 a0_3, .int .i64 t332, .int .i64 a1_1] (by rfl) rfl rfl zE11_3 ?_
             with_reducible refine (colonnaderef01_Scale.calls kj111 a0_3 t332 a1_1 t333 t334 _ A129.out).mono ?_
             rintro e w' ⟨rfl, ⟨nd, rfl⟩⟩
             refine ⟨_, rfl, ?_⟩
             refine hK.out _ _ ⟨(blk_cell BK304.out 0).trans rfl, (blk_cell BK304.out 1).trans rfl, (blk_cell BK304.out 2).trans rfl, (blk_cell BK304.out 3).trans rfl, (blk_cell BK304.out 4).trans rfl, (blk_cell BK305.out 0).trans rfl, (blk_cell BK305.out 1).trans rfl⟩ (fun hHeld => ?_)
             clear hK K
             refine norm_ (a' := ?_) ?_ ?_
             rotate_left
             ·show Act.put _ (some 87) _ = _
              simp only [Act.put, List.setIfInBounds_toArray, List.set_cons_zero, List.set_cons_succ, i64_w, i32_w]
              rfl
             refine pure_ (i := 7) (N := some 80) (v := ?_) (a' := ?_) #[true, true, true, true, true, true, true, true, false, false, false, false] rfl rfl (any_of HT_.out zE11_6) (fun _ _ _ h => h) (Or.inl ⟨by rfl, ?_⟩) ?_ ?_
             rotate_left
             ·intro w'
              go_simp
              with_reducible rfl
             rotate_left
             ·simp only [Act.put, List.setIfInBounds_toArray, List.set_cons_zero, List.set_cons_succ, i64_w, i32_w]
              rfl
             refine pure_ (i := 8) (N := some 88) (v := ?_) (a' := ?_) #[true, true, true, true, true, true, true, true, true, false, false, false] rfl rfl (any_of HT_.out zE11_6) (fun _ _ _ h => h) (Or.inl ⟨by rfl, ?_⟩) ?_ ?_
             rotate_left
             ·intro w'
              go_simp
              with_reducible rfl
             rotate_left
             ·simp only [Act.put, List.setIfInBounds_toArray, List.set_cons_zero, List.set_cons_succ, i64_w, i32_w]
              rfl
             refine pure_ (i := 9) (N := some 89) (v := ?_) (a' := ?_) #[true, true, true, true, true, true, true, true, true, true, false, false] rfl rfl (any_of HT_.out zE11_6) (fun _ _ _ h => h) (Or.inl ⟨by rfl, ?_⟩) ?_ ?_
             rotate_left
             ·intro w'
              go_simp
              with_reducible rfl
             rotate_left
             ·simp only [Act.put, List.setIfInBounds_toArray, List.set_cons_zero, List.set_cons_succ, i64_w, i32_w]
              rfl
             refine pure_ (i := 10) (N := some 10) (v := ?_) (a' := ?_) #[true, true, true, true, true, true, true, true, true, true, true, false] rfl rfl (any_of HT_.out zE11_6) (fun _ _ _ h => h) (Or.inl ⟨by rfl, ?_⟩) ?_ ?_
             rotate_left
             ·intro w'
              go_simp
              with_reducible rfl
             rotate_left
             ·simp only [Act.put, List.setIfInBounds_toArray, List.set_cons_zero, List.set_cons_succ, i64_w, i32_w]
              rfl
             refine pure_ (i := 11) (N := some 11) (v := ?_) (a' := ?_) #[true, true, true, true, true, true, true, true, true, true, true, true] rfl rfl (any_of HT_.out zE11_6) (fun _ _ _ h => h) (Or.inl ⟨by rfl, ?_⟩) ?_ ?_
             rotate_left
             ·intro w'
              go_simp
              with_reducible rfl
             rotate_left
             ·simp only [Act.put, List.setIfInBounds_toArray, List.set_cons_zero, List.set_cons_succ, i64_w, i32_w]
              rfl
             refine done_ (done_of HT_.out zE11_6) ?_
             have hnb133 := NB331_304.out
             have hnc133 := NB304_331.out
             have hnb134 := NB331_305.out
             have hnc134 := NB305_331.out
             have hnb135 := NB331_306.out
             have hnc135 := NB306_331.out
             have hcz136_0 : w132.cell? ⟨gb331, 0, none⟩ = some (.int .i64 a1_0) := (blk_cell BK331.out 0).trans rfl
             have hcz136_1 : w132.cell? ⟨gb331, 1, none⟩ = some (.int .i64 a1_1) := (blk_cell BK331.out 1).trans rfl
             have hcz136_2 : w132.cell? ⟨gb331, 2, none⟩ = some (.bool false) := (blk_cell BK331.out 2).trans rfl
             have hcz136_3 : w132.cell? ⟨gb331, 3, none⟩ = some (.int .i64 a0_3) := (blk_cell BK331.out 3).trans rfl
             have hcz136_4 : w132.cell? ⟨gb331, 4, none⟩ = some (.string (⟨#[]⟩ : ByteArray)) := (blk_cell BK331.out 4).trans rfl
             have hfz136_0 := blk_frozen BK331.out 0
             have hfz136_1 := blk_frozen BK331.out 1
             have hfz136_2 := blk_frozen BK331.out 2
             have hfz136_3 := blk_frozen BK331.out 3
             have hfz136_4 := blk_frozen BK331.out 4
             have hnb137 := NB306_304.out
             have hnc137 := NB304_306.out
             have hnb138 := NB306_305.out
             have hnc138 := NB305_306.out
             have hcz139_0 : w132.cell? ⟨gb306, 0, none⟩ = some (.int .i64 0) := (blk_cell BK306.out 0).trans rfl
             have hcz139_1 : w132.cell? ⟨gb306, 1, none⟩ = some (.int .i64 0) := (blk_cell BK306.out 1).trans rfl
             have hcz139_2 : w132.cell? ⟨gb306, 2, none⟩ = some (.bool false) := (blk_cell BK306.out 2).trans rfl
             have hcz139_3 : w132.cell? ⟨gb306, 3, none⟩ = some (.int .i64 0) := (blk_cell BK306.out 3).trans rfl
             have hcz139_4 : w132.cell? ⟨gb306, 4, none⟩ = some (.string (⟨#[]⟩ : ByteArray)) := (blk_cell BK306.out 4).trans rfl
             have hfz139_0 := blk_frozen BK306.out 0
             have hfz139_1 := blk_frozen BK306.out 1
             have hfz139_2 := blk_frozen BK306.out 2
             have hfz139_3 := blk_frozen BK306.out 3
             have hfz139_4 := blk_frozen BK306.out 4
             try go_wp2
             refine bodyPost_ret (results_ct rfl _ _ gb306 25 #[.int .i64 a1_0, .int .i64 a1_1, .bool false, .int .i64 t333, .string (⟨#[]⟩ : ByteArray)] (0, 0) _ rfl (by (with_reducible repeat (first | refine blk_drewN ?_ _ | refine blk_drew ?_ | refine blk_alloc ?_ _)); refine blk_put (cs := #[.int .i64 a1_0, .int .i64 a1_1, .bool false, .int .i64 t333, .string (⟨#[]⟩ : ByteArray)]) ?_ 4 _ rfl; (with_reducible repeat (first | refine blk_drewN ?_ _ | refine blk_drew ?_ | refine blk_alloc ?_ _)); refine blk_put (cs := #[.int .i64 a1_0, .int .i64 a1_1, .bool false, .int .i64 0, .string (⟨#[]⟩ : ByteArray)]) ?_ 3 _ rfl; (with_reducible repeat (first | refine blk_drewN ?_ _ | refine blk_drew ?_ | refine blk_alloc ?_ _)); refine blk_put (cs := #[.int .i64 a1_0, .int .i64 a1_1, .bool false, .int .i64 0, .string (⟨#[]⟩ : ByteArray)]) ?_ 2 _ rfl; (with_reducible repeat (first | refine blk_drewN ?_ _ | refine blk_drew ?_ | refine blk_alloc ?_ _)); refine blk_put (cs := #[.int .i64 a1_0, .int .i64 0, .bool false, .int .i64 0, .string (⟨#[]⟩ : ByteArray)]) ?_ 1 _ rfl; (with_reducible repeat (first | refine blk_drewN ?_ _ | refine blk_drew ?_ | refine blk_alloc ?_ _)); refine blk_put (cs := #[.int .i64 0, .int .i64 0, .bool false, .int .i64 0, .string (⟨#[]⟩ : ByteArray)]) ?_ 0 _ rfl; (with_reducible repeat (first | refine blk_drewN ?_ _ | refine blk_drew ?_ | refine blk_alloc ?_ _)); refine blk_far ?_ NB306_331.out _; (with_reducible repeat (first | refine blk_drewN ?_ _ | refine blk_drew ?_ | refine blk_alloc ?_ _)); exact BK306.out) Tryz.underlying25 rfl zE11_6) rfl ?_
             exact ⟨by first | rfl | (simp [errW_none, errW_some] <;> rfl) | (simp [*, errW_none, errW_some] <;> rfl), by repeat (first | (with_reducible first | exact HB.out | apply below_alloc | apply pw_below_drewN | apply below_drew1 | refine below_set ?_ GE304.out | refine below_set ?_ GE305.out | refine below_set ?_ GE306.out | refine below_set ?_ GE331.out) | exact HB.out)⟩
            ·rw [if_neg c130] at H
             have c130b0 : (t334 == 0) = false := beq_eq_false_iff_ne.mpr c130
             have c130b1 : (t334 != 0) = true := bne_iff_ne.mpr c130
             simp only [Option.some.injEq, Prod.mk.injEq] at H
             obtain ⟨rfl, rfl, rfl, rfl, rfl, rfl⟩ := H
             try go_wp2
             have n0_ := Aside0.mk (blk_drew BK304.out)
             have n1_ := Aside0.mk (blk_drew BK305.out)
             have n2_ := Aside0.mk (blk_drew BK306.out)
             have n3_ := Aside0.mk (blk_drew BK331.out)
             have n4_ := Aside0.mk (below_drew1 HB.out)
             clear BK304
             clear BK305
             clear BK306
             clear BK331
             clear HB
             have BK304 := n0_
             have BK305 := n1_
             have BK306 := n2_
             have BK331 := n3_
             have HB := n4_
             clear n0_ n1_ n2_ n3_ n4_
             refine start_ (n := 12) (S := fun w' => w'.cell? ⟨gb304, 0, none⟩ = some (.int .i64 a0_0) ∧ w'.cell? ⟨gb304, 1, none⟩ = some (.int .i64 a0_1) ∧ w'.cell? ⟨gb304, 2, none⟩ = some (.bool false) ∧ w'.cell? ⟨gb304, 3, none⟩ = some (.int .i64 a0_3) ∧ w'.cell? ⟨gb304, 4, none⟩ = some (.string a0_4) ∧ w'.cell? ⟨gb305, 0, none⟩ = some (.int .i64 a1_0) ∧ w'.cell? ⟨gb305, 1, none⟩ = some (.int .i64 a1_1)) (ds := []) #[false, false, false, false, false, false, false, false, false, false, false, false] zE11_6 rfl rfl ⟨(blk_cell BK304.out 0).trans rfl, (blk_cell BK304.out 1).trans rfl, (blk_cell BK304.out 2).trans rfl, (blk_cell BK304.out 3).trans rfl, (blk_cell BK304.out 4).trans rfl, (blk_cell BK305.out 0).trans rfl, (blk_cell BK305.out 1).trans rfl⟩ (fun hHeld => ?_); refine with_tabW colonnaderef02_Cast.tab22 colonnaderef02_Cast.bits22 (fun HT_ HW_ => ?_)
             generalize wc.drew = w140 at BK304 BK305 BK306 BK331 HB hHeld ⊢
             refine pure_ (i := 0) (N := some 81) (v := ?_) (a' := ?_) #[true, false, false, false, false, false, false, false, false, false, false, false] rfl rfl (any_of HT_.out zE11_6) (fun _ _ _ h => h) (Or.inl ⟨by rfl, ?_⟩) ?_ ?_
             rotate_left
             ·intro w'
              go_simp
              with_reducible rfl
             rotate_left
             ·simp only [Act.put, List.setIfInBounds_toArray, List.set_cons_zero, List.set_cons_succ, i64_w, i32_w]
              rfl
             refine pure_ (i := 4) (N := some 85) (v := ?_) (a' := ?_) #[true, false, false, false, true, false, false, false, false, false, false, false] rfl rfl (any_of HT_.out zE11_6) (fun _ _ _ h => h) (Or.inl ⟨by rfl, ?_⟩) ?_ ?_
             rotate_left
             ·intro w'
              go_simp
              with_reducible rfl
             rotate_left
             ·simp only [Act.put, List.setIfInBounds_toArray, List.set_cons_zero, List.set_cons_succ, i64_w, i32_w]
              rfl
             refine take_ (i := 1) (N := some 82) (v := ?_) (a' := ?_) #[true, true, false, false, true, false, false, false, false, false, false, false] rfl rfl (take_ofW HT_.out HW_.out zE11_6) (fun _ _ _ h => h) (Or.inl ⟨by rfl, ?_⟩) hHeld ?_ ?_
             rotate_left
             ·rintro w' ⟨s0, s1, s2, s3, s4, s5, s6⟩
              go_simp
              with_reducible rfl
             rotate_left
             ·simp only [Act.put, List.setIfInBounds_toArray, List.set_cons_zero, List.set_cons_succ, i64_w, i32_w]
              rfl
             refine take_ (i := 2) (N := some 83) (v := ?_) (a' := ?_) #[true, true, true, false, true, false, false, false, false, false, false, false] rfl rfl (take_ofW HT_.out HW_.out zE11_6) (fun _ _ _ h => h) (Or.inl ⟨by rfl, ?_⟩) hHeld ?_ ?_
             rotate_left
             ·rintro w' ⟨s0, s1, s2, s3, s4, s5, s6⟩
              go_simp
              with_reducible rfl
             rotate_left
             ·simp only [Act.put, List.setIfInBounds_toArray, List.set_cons_zero, List.set_cons_succ, i64_w, i32_w]
              rfl
             refine take_ (i := 5) (N := some 86) (v := ?_) (a' := ?_) #[true, true, true, false, true, true, false, false, false, false, false, false] rfl rfl (take_ofW HT_.out HW_.out zE11_6) (fun _ _ _ h => h) (Or.inl ⟨by rfl, ?_⟩) hHeld ?_ ?_
             rotate_left
             ·rintro w' ⟨s0, s1, s2, s3, s4, s5, s6⟩
              go_simp
              with_reducible rfl
             rotate_left
             ·simp only [Act.put, List.setIfInBounds_toArray, List.set_cons_zero, List.set_cons_succ, i64_w, i32_w]
              rfl
             refine one_ (i := 3) (N := some 84) #[true, true, true, true, true, true, false, false, false, false, false, false] rfl rfl (one_of HT_.out zE11_6) (by decide) (fun K hK => ?_)
             refine goes_ Tryz.func24 zE11_6 rfl #[.agg #[.int .i64 a0_0, .int .i64 a0_1, .bool false, .int .i64 a0_3, .string a0_4]] (by rfl) rfl rfl zE11_3 ?_
             with_reducible refine (colonnaderef02_scale.calls a0_0 a0_1 false a0_3 a0_4 t332 _ A128.out).mono ?_
             rintro e w141 ⟨rfl, hb⟩
             refine ⟨_, rfl, ?_⟩
             have n0_ := Aside0.mk (blk_below (g := gb304) (o := .cells #[.int .i64 a0_0, .int .i64 a0_1, .bool false, .int .i64 a0_3, .string a0_4] 25 (0, 0)) zE11_2 hb)
             have n1_ := Aside0.mk (blk_below (g := gb305) (o := .cells #[.int .i64 a1_0, .int .i64 a1_1] 23 (0, 0)) zE11_4 hb)
             have n2_ := Aside0.mk (blk_below (g := gb306) (o := .cells #[.int .i64 0, .int .i64 0, .bool false, .int .i64 0, .string (⟨#[]⟩ : ByteArray)] 25 (0, 0)) zE11_5 hb)
             have n3_ := Aside0.mk (blk_below (g := gb331) (o := .cells #[.int .i64 a1_0, .int .i64 a1_1, .bool false, .int .i64 a0_3, .string (⟨#[]⟩ : ByteArray)] 25 (0, 0)) zE11_12 hb)
             have n4_ := Aside0.mk (below_step zE11_8 hb)
             clear BK304
             clear BK305
             clear BK306
             clear BK331
             clear HB
             have BK304 := n0_
             have BK305 := n1_
             have BK306 := n2_
             have BK331 := n3_
             have HB := n4_
             clear n0_ n1_ n2_ n3_ n4_
             (try clear hb)
             (try clear hb2)
             (try clear hk)
             (try clear hi)
             refine hK.out _ _ ⟨(blk_cell BK304.out 0).trans rfl, (blk_cell BK304.out 1).trans rfl, (blk_cell BK304.out 2).trans rfl, (blk_cell BK304.out 3).trans rfl, (blk_cell BK304.out 4).trans rfl, (blk_cell BK305.out 0).trans rfl, (blk_cell BK305.out 1).trans rfl⟩ (fun hHeld => ?_)
             clear hK K
             refine norm_ (a' := ?_) ?_ ?_
             rotate_left
             ·show Act.put _ (some 84) _ = _
              simp only [Act.put, List.setIfInBounds_toArray, List.set_cons_zero, List.set_cons_succ, i64_w, i32_w]
              rfl
             refine one_ (i := 6) (N := some 87) #[true, true, true, true, true, true, true, false, false, false, false, false] rfl rfl (one_of HT_.out zE11_6) (by decide) (fun K hK => ?_)
             refine goes_ Tryz.func23 zE11_6 rfl #[.int .i64 a0_3, .int .i64 t332, .int .i64 a1_1] (by rfl) rfl rfl zE11_3 ?_
             with_reducible refine (colonnaderef01_Scale.calls kj111 a0_3 t332 a1_1 t333 t334 _ A129.out).mono ?_
             rintro e w' ⟨rfl, ⟨nd, rfl⟩⟩
             refine ⟨_, rfl, ?_⟩
             refine hK.out _ _ ⟨(blk_cell BK304.out 0).trans rfl, (blk_cell BK304.out 1).trans rfl, (blk_cell BK304.out 2).trans rfl, (blk_cell BK304.out 3).trans rfl, (blk_cell BK304.out 4).trans rfl, (blk_cell BK305.out 0).trans rfl, (blk_cell BK305.out 1).trans rfl⟩ (fun hHeld => ?_)
             clear hK K
             refine norm_ (a' := ?_) ?_ ?_
             rotate_left
             ·show Act.put _ (some 87) _ = _
              simp only [Act.put, List.setIfInBounds_toArray, List.set_cons_zero, List.set_cons_succ, i64_w, i32_w]
              rfl
             refine pure_ (i := 7) (N := some 80) (v := ?_) (a' := ?_) #[true, true, true, true, true, true, true, true, false, false, false, false] rfl rfl (any_of HT_.out zE11_6) (fun _ _ _ h => h) (Or.inl ⟨by rfl, ?_⟩) ?_ ?_
             rotate_left
             ·intro w'
              go_simp
              with_reducible rfl
             rotate_left
             ·simp only [Act.put, List.setIfInBounds_toArray, List.set_cons_zero, List.set_cons_succ, i64_w, i32_w]
              rfl
             refine pure_ (i := 8) (N := some 88) (v := ?_) (a' := ?_) #[true, true, true, true, true, true, true, true, true, false, false, false] rfl rfl (any_of HT_.out zE11_6) (fun _ _ _ h => h) (Or.inl ⟨by rfl, ?_⟩) ?_ ?_
             rotate_left
             ·intro w'
              go_simp
              with_reducible rfl
             rotate_left
             ·simp only [Act.put, List.setIfInBounds_toArray, List.set_cons_zero, List.set_cons_succ, i64_w, i32_w]
              rfl
             refine pure_ (i := 9) (N := some 89) (v := ?_) (a' := ?_) #[true, true, true, true, true, true, true, true, true, true, false, false] rfl rfl (any_of HT_.out zE11_6) (fun _ _ _ h => h) (Or.inl ⟨by rfl, ?_⟩) ?_ ?_
             rotate_left
             ·intro w'
              go_simp
              with_reducible rfl
             rotate_left
             ·simp only [Act.put, List.setIfInBounds_toArray, List.set_cons_zero, List.set_cons_succ, i64_w, i32_w]
              rfl
             refine pure_ (i := 10) (N := some 10) (v := ?_) (a' := ?_) #[true, true, true, true, true, true, true, true, true, true, true, false] rfl rfl (any_of HT_.out zE11_6) (fun _ _ _ h => h) (Or.inl ⟨by rfl, ?_⟩) ?_ ?_
             rotate_left
             ·intro w'
              go_simp
              with_reducible rfl
             rotate_left
             ·simp only [Act.put, List.setIfInBounds_toArray, List.set_cons_zero, List.set_cons_succ, i64_w, i32_w]
              rfl
             refine pure_ (i := 11) (N := some 11) (v := ?_) (a' := ?_) #[true, true, true, true, true, true, true, true, true, true, true, true] rfl rfl (any_of HT_.out zE11_6) (fun _ _ _ h => h) (Or.inl ⟨by rfl, ?_⟩) ?_ ?_
             rotate_left
             ·intro w'
              go_simp
              with_reducible rfl
             rotate_left
             ·simp only [Act.put, List.setIfInBounds_toArray, List.set_cons_zero, List.set_cons_succ, i64_w, i32_w]
              rfl
             refine done_ (done_of HT_.out zE11_6) ?_
             have hnb142 := NB306_304.out
             have hnc142 := NB304_306.out
             have hnb143 := NB306_305.out
             have hnc143 := NB305_306.out
             have hnb144 := NB306_331.out
             have hnc144 := NB331_306.out
             have hcz145_0 : w141.cell? ⟨gb306, 0, none⟩ = some (.int .i64 0) := (blk_cell BK306.out 0).trans rfl
             have hcz145_1 : w141.cell? ⟨gb306, 1, none⟩ = some (.int .i64 0) := (blk_cell BK306.out 1).trans rfl
             have hcz145_2 : w141.cell? ⟨gb306, 2, none⟩ = some (.bool false) := (blk_cell BK306.out 2).trans rfl
             have hcz145_3 : w141.cell? ⟨gb306, 3, none⟩ = some (.int .i64 0) := (blk_cell BK306.out 3).trans rfl
             have hcz145_4 : w141.cell? ⟨gb306, 4, none⟩ = some (.string (⟨#[]⟩ : ByteArray)) := (blk_cell BK306.out 4).trans rfl
             have hfz145_0 := blk_frozen BK306.out 0
             have hfz145_1 := blk_frozen BK306.out 1
             have hfz145_2 := blk_frozen BK306.out 2
             have hfz145_3 := blk_frozen BK306.out 3
             have hfz145_4 := blk_frozen BK306.out 4
             try go_wp2
             refine bodyPost_ret (results_ct rfl _ _ gb306 25 #[.int .i64 0, .int .i64 0, .bool false, .int .i64 0, .string (⟨#[]⟩ : ByteArray)] (0, 0) _ rfl zE11_0 Tryz.underlying25 rfl zE11_6) rfl ?_
             exact ⟨by first | rfl | (simp [errW_none, errW_some] <;> rfl) | (simp [*, errW_none, errW_some] <;> rfl), by repeat (first | (with_reducible first | exact HB.out | apply below_alloc | apply pw_below_drewN | apply below_drew1 | refine below_set ?_ GE304.out | refine below_set ?_ GE305.out | refine below_set ?_ GE306.out | refine below_set ?_ GE331.out) | exact HB.out)⟩
        ·replace c111 := Bool.eq_false_iff.mpr c111
         subst c111
         have H1 : (some (a1_0, a1_1, false, a0_3, (⟨#[]⟩ : ByteArray), 0)) = some (r1, r2, r3, r4, r5, r6) := by rw [if_neg (show ¬ (false = true) by decide)] at H; exact H
         clear H
         have H := H1
         clear H1
         simp only [Option.some.injEq, Prod.mk.injEq] at H
         obtain ⟨rfl, rfl, rfl, rfl, rfl, rfl⟩ := H
         have hnb146 := NB331_304.out
         have hnc146 := NB304_331.out
         have hnb147 := NB331_305.out
         have hnc147 := NB305_331.out
         have hnb148 := NB331_306.out
         have hnc148 := NB306_331.out
         have hcz149_0 : wc.cell? ⟨gb331, 0, none⟩ = some (.int .i64 a1_0) := (blk_cell BK331.out 0).trans rfl
         have hcz149_1 : wc.cell? ⟨gb331, 1, none⟩ = some (.int .i64 a1_1) := (blk_cell BK331.out 1).trans rfl
         have hcz149_2 : wc.cell? ⟨gb331, 2, none⟩ = some (.bool false) := (blk_cell BK331.out 2).trans rfl
         have hcz149_3 : wc.cell? ⟨gb331, 3, none⟩ = some (.int .i64 a0_3) := (blk_cell BK331.out 3).trans rfl
         have hcz149_4 : wc.cell? ⟨gb331, 4, none⟩ = some (.string (⟨#[]⟩ : ByteArray)) := (blk_cell BK331.out 4).trans rfl
         have hfz149_0 := blk_frozen BK331.out 0
         have hfz149_1 := blk_frozen BK331.out 1
         have hfz149_2 := blk_frozen BK331.out 2
         have hfz149_3 := blk_frozen BK331.out 3
         have hfz149_4 := blk_frozen BK331.out 4
         have hnb150 := NB306_304.out
         have hnc150 := NB304_306.out
         have hnb151 := NB306_305.out
         have hnc151 := NB305_306.out
         have hcz152_0 : wc.cell? ⟨gb306, 0, none⟩ = some (.int .i64 0) := (blk_cell BK306.out 0).trans rfl
         have hcz152_1 : wc.cell? ⟨gb306, 1, none⟩ = some (.int .i64 0) := (blk_cell BK306.out 1).trans rfl
         have hcz152_2 : wc.cell? ⟨gb306, 2, none⟩ = some (.bool false) := (blk_cell BK306.out 2).trans rfl
         have hcz152_3 : wc.cell? ⟨gb306, 3, none⟩ = some (.int .i64 0) := (blk_cell BK306.out 3).trans rfl
         have hcz152_4 : wc.cell? ⟨gb306, 4, none⟩ = some (.string (⟨#[]⟩ : ByteArray)) := (blk_cell BK306.out 4).trans rfl
         have hfz152_0 := blk_frozen BK306.out 0
         have hfz152_1 := blk_frozen BK306.out 1
         have hfz152_2 := blk_frozen BK306.out 2
         have hfz152_3 := blk_frozen BK306.out 3
         have hfz152_4 := blk_frozen BK306.out 4
         go_wp2
         refine bodyPost_ret (results_ct rfl _ _ gb306 25 #[.int .i64 a1_0, .int .i64 a1_1, .bool false, .int .i64 a0_3, .string (⟨#[]⟩ : ByteArray)] (0, 0) _ rfl (by (with_reducible repeat (first | refine blk_drewN ?_ _ | refine blk_drew ?_ | refine blk_alloc ?_ _)); refine blk_put (cs := #[.int .i64 a1_0, .int .i64 a1_1, .bool false, .int .i64 a0_3, .string (⟨#[]⟩ : ByteArray)]) ?_ 4 _ rfl; (with_reducible repeat (first | refine blk_drewN ?_ _ | refine blk_drew ?_ | refine blk_alloc ?_ _)); refine blk_put (cs := #[.int .i64 a1_0, .int .i64 a1_1, .bool false, .int .i64 0, .string (⟨#[]⟩ : ByteArray)]) ?_ 3 _ rfl; (with_reducible repeat (first | refine blk_drewN ?_ _ | refine blk_drew ?_ | refine blk_alloc ?_ _)); refine blk_put (cs := #[.int .i64 a1_0, .int .i64 a1_1, .bool false, .int .i64 0, .string (⟨#[]⟩ : ByteArray)]) ?_ 2 _ rfl; (with_reducible repeat (first | refine blk_drewN ?_ _ | refine blk_drew ?_ | refine blk_alloc ?_ _)); refine blk_put (cs := #[.int .i64 a1_0, .int .i64 0, .bool false, .int .i64 0, .string (⟨#[]⟩ : ByteArray)]) ?_ 1 _ rfl; (with_reducible repeat (first | refine blk_drewN ?_ _ | refine blk_drew ?_ | refine blk_alloc ?_ _)); refine blk_put (cs := #[.int .i64 0, .int .i64 0, .bool false, .int .i64 0, .string (⟨#[]⟩ : ByteArray)]) ?_ 0 _ rfl; (with_reducible repeat (first | refine blk_drewN ?_ _ | refine blk_drew ?_ | refine blk_alloc ?_ _)); exact BK306.out) Tryz.underlying25 rfl zE11_6) rfl ?_
         exact ⟨by first | rfl | (simp [errW_none, errW_some] <;> rfl) | (simp [*, errW_none, errW_some] <;> rfl), by repeat (first | (with_reducible first | exact HB.out | apply below_alloc | apply pw_below_drewN | apply below_drew1 | refine below_set ?_ GE304.out | refine below_set ?_ GE305.out | refine below_set ?_ GE306.out | refine below_set ?_ GE331.out) | exact HB.out)⟩
  ·replace c6 := Bool.eq_false_iff.mpr c6
   subst c6
   have H1 : (some (0, 0, false, 0, (⟨#[]⟩ : ByteArray), 21)) = some (r1, r2, r3, r4, r5, r6) := by rw [if_neg (show ¬ (false = true) by decide)] at H; exact H
   clear H
   have H := H1
   clear H1
   simp only [Option.some.injEq, Prod.mk.injEq] at H
   obtain ⟨rfl, rfl, rfl, rfl, rfl, rfl⟩ := H
   go_wp2_with (first | ((with_reducible refine gate_callee (f := 17) rfl ?_); refine goesL_ (some 13) rfl rfl Tryz.func17 zE11_6 rfl #[.agg #[.int .i64 a1_0, .int .i64 a1_1]] rfl zE11_3 ?_; (with_reducible refine (colonnaderef02_CheckType.calls a1_0 a1_1 t307 _ A3.out).mono ?_); rintro e w159 ⟨rfl, hb⟩; refine ⟨_, rfl, ?_⟩; have n0_ := Aside0.mk (blk_below (g := gb304) (o := .cells #[.int .i64 a0_0, .int .i64 a0_1, .bool a0_2, .int .i64 a0_3, .string a0_4] 25 (0, 0)) zE11_2 hb); have n1_ := Aside0.mk (blk_below (g := gb305) (o := .cells #[.int .i64 a1_0, .int .i64 a1_1] 23 (0, 0)) zE11_4 hb); have n2_ := Aside0.mk (blk_below (g := gb306) (o := .cells #[.int .i64 0, .int .i64 0, .bool false, .int .i64 0, .string (⟨#[]⟩ : ByteArray)] 25 (0, 0)) zE11_5 hb); have n3_ := Aside0.mk (below_step zE11_1 hb); clear BK304; clear BK305; clear BK306; clear HB; have BK304 := n0_; have BK305 := n1_; have BK306 := n2_; have HB := n3_; clear n0_ n1_ n2_ n3_; (try clear hb); (try clear hb2); (try clear hk); (try clear hi); have hnb160 := NB304_306.out; have hnc160 := NB306_304.out; have hcz161_0 : w159.cell? ⟨gb304, 0, none⟩ = some (.int .i64 a0_0) := (blk_cell BK304.out 0).trans rfl; have hcz161_1 : w159.cell? ⟨gb304, 1, none⟩ = some (.int .i64 a0_1) := (blk_cell BK304.out 1).trans rfl; have hcz161_2 : w159.cell? ⟨gb304, 2, none⟩ = some (.bool a0_2) := (blk_cell BK304.out 2).trans rfl; have hcz161_3 : w159.cell? ⟨gb304, 3, none⟩ = some (.int .i64 a0_3) := (blk_cell BK304.out 3).trans rfl; have hcz161_4 : w159.cell? ⟨gb304, 4, none⟩ = some (.string a0_4) := (blk_cell BK304.out 4).trans rfl; have hfz161_0 := blk_frozen BK304.out 0; have hfz161_1 := blk_frozen BK304.out 1; have hfz161_2 := blk_frozen BK304.out 2; have hfz161_3 := blk_frozen BK304.out 3; have hfz161_4 := blk_frozen BK304.out 4; have hcz162_0 : w159.cell? ⟨gb305, 0, none⟩ = some (.int .i64 a1_0) := (blk_cell BK305.out 0).trans rfl; have hcz162_1 : w159.cell? ⟨gb305, 1, none⟩ = some (.int .i64 a1_1) := (blk_cell BK305.out 1).trans rfl; have hfz162_0 := blk_frozen BK305.out 0; have hfz162_1 := blk_frozen BK305.out 1) | ((with_reducible refine gate_callee (f := 18) rfl ?_); refine goesL_ (some 24) rfl rfl Tryz.func18 zE11_6 rfl #[.int .i64 a0_0, .int .i64 a1_0] rfl zE11_3 ?_; (with_reducible refine (colonnaderef02_way.calls a0_0 a1_0 false _ A5.out).mono ?_); rintro e w' ⟨rfl, ⟨nd, rfl⟩⟩; refine ⟨_, rfl, ?_⟩; (try (rw [drewN_self w159]; generalize hq_ : World.drewN w159 _ = w159; have n0_ : Aside0 (w159.heap[gb304]? = some (.cells #[.int .i64 a0_0, .int .i64 a0_1, .bool a0_2, .int .i64 a0_3, .string a0_4] 25 (0, 0))) := ⟨by rw [← hq_]; exact zE11_2⟩; have n1_ : Aside0 (w159.heap[gb305]? = some (.cells #[.int .i64 a1_0, .int .i64 a1_1] 23 (0, 0))) := ⟨by rw [← hq_]; exact zE11_4⟩; have n2_ : Aside0 (w159.heap[gb306]? = some (.cells #[.int .i64 0, .int .i64 0, .bool false, .int .i64 0, .string (⟨#[]⟩ : ByteArray)] 25 (0, 0))) := ⟨by rw [← hq_]; exact zE11_5⟩; have n3_ : Aside0 (Below w.heap.size w w159) := ⟨by rw [← hq_]; exact zE11_1⟩; clear BK304 BK305 BK306 HB hq_; have BK304 := n0_; have BK305 := n1_; have BK306 := n2_; have HB := n3_; clear n0_ n1_ n2_ n3_; have hcy304_0 : w159.cell? ⟨gb304, 0, none⟩ = some (.int .i64 a0_0) := (blk_cell BK304.out 0).trans rfl; have hfy304_0 := blk_frozen BK304.out 0; have hcy304_1 : w159.cell? ⟨gb304, 1, none⟩ = some (.int .i64 a0_1) := (blk_cell BK304.out 1).trans rfl; have hfy304_1 := blk_frozen BK304.out 1; have hcy304_2 : w159.cell? ⟨gb304, 2, none⟩ = some (.bool a0_2) := (blk_cell BK304.out 2).trans rfl; have hfy304_2 := blk_frozen BK304.out 2; have hcy304_3 : w159.cell? ⟨gb304, 3, none⟩ = some (.int .i64 a0_3) := (blk_cell BK304.out 3).trans rfl; have hfy304_3 := blk_frozen BK304.out 3; have hcy304_4 : w159.cell? ⟨gb304, 4, none⟩ = some (.string a0_4) := (blk_cell BK304.out 4).trans rfl; have hfy304_4 := blk_frozen BK304.out 4; have hcy305_0 : w159.cell? ⟨gb305, 0, none⟩ = some (.int .i64 a1_0) := (blk_cell BK305.out 0).trans rfl; have hfy305_0 := blk_frozen BK305.out 0; have hcy305_1 : w159.cell? ⟨gb305, 1, none⟩ = some (.int .i64 a1_1) := (blk_cell BK305.out 1).trans rfl; have hfy305_1 := blk_frozen BK305.out 1; have hcy306_0 : w159.cell? ⟨gb306, 0, none⟩ = some (.int .i64 0) := (blk_cell BK306.out 0).trans rfl; have hfy306_0 := blk_frozen BK306.out 0; have hcy306_1 : w159.cell? ⟨gb306, 1, none⟩ = some (.int .i64 0) := (blk_cell BK306.out 1).trans rfl; have hfy306_1 := blk_frozen BK306.out 1; have hcy306_2 : w159.cell? ⟨gb306, 2, none⟩ = some (.bool false) := (blk_cell BK306.out 2).trans rfl; have hfy306_2 := blk_frozen BK306.out 2; have hcy306_3 : w159.cell? ⟨gb306, 3, none⟩ = some (.int .i64 0) := (blk_cell BK306.out 3).trans rfl; have hfy306_3 := blk_frozen BK306.out 3; have hcy306_4 : w159.cell? ⟨gb306, 4, none⟩ = some (.string (⟨#[]⟩ : ByteArray)) := (blk_cell BK306.out 4).trans rfl; have hfy306_4 := blk_frozen BK306.out 4)); have hcz163_0 : w159.cell? ⟨gb306, 0, none⟩ = some (.int .i64 0) := (blk_cell BK306.out 0).trans rfl; have hcz163_1 : w159.cell? ⟨gb306, 1, none⟩ = some (.int .i64 0) := (blk_cell BK306.out 1).trans rfl; have hcz163_2 : w159.cell? ⟨gb306, 2, none⟩ = some (.bool false) := (blk_cell BK306.out 2).trans rfl; have hcz163_3 : w159.cell? ⟨gb306, 3, none⟩ = some (.int .i64 0) := (blk_cell BK306.out 3).trans rfl; have hcz163_4 : w159.cell? ⟨gb306, 4, none⟩ = some (.string (⟨#[]⟩ : ByteArray)) := (blk_cell BK306.out 4).trans rfl; have hfz163_0 := blk_frozen BK306.out 0; have hfz163_1 := blk_frozen BK306.out 1; have hfz163_2 := blk_frozen BK306.out 2; have hfz163_3 := blk_frozen BK306.out 3; have hfz163_4 := blk_frozen BK306.out 4))
   refine bodyPost_ret (results_ct rfl _ _ gb306 25 #[.int .i64 0, .int .i64 0, .bool false, .int .i64 0, .string (⟨#[]⟩ : ByteArray)] (0, 0) _ rfl zE11_0 Tryz.underlying25 rfl zE11_6) rfl ?_
   exact ⟨by first | rfl | (simp [errW_none, errW_some] <;> rfl) | (simp [*, errW_none, errW_some] <;> rfl), by repeat (first | (with_reducible first | exact HB.out | apply below_alloc | apply pw_below_drewN | apply below_drew1 | refine below_set ?_ GE304.out | refine below_set ?_ GE305.out | refine below_set ?_ GE306.out) | exact HB.out)⟩
 ·rw [if_neg c4] at H
  have c4b0 : (t307 == 0) = false := beq_eq_false_iff_ne.mpr c4
  have c4b1 : (t307 != 0) = true := bne_iff_ne.mpr c4
  simp only [Option.some.injEq, Prod.mk.injEq] at H
  obtain ⟨rfl, rfl, rfl, rfl, rfl, rfl⟩ := H
  go_wp2_with (first | ((with_reducible refine gate_callee (f := 17) rfl ?_); refine goesL_ (some 13) rfl rfl Tryz.func17 zE11_6 rfl #[.agg #[.int .i64 a1_0, .int .i64 a1_1]] rfl zE11_3 ?_; (with_reducible refine (colonnaderef02_CheckType.calls a1_0 a1_1 t307 _ A3.out).mono ?_); rintro e w170 ⟨rfl, hb⟩; refine ⟨_, rfl, ?_⟩; have n0_ := Aside0.mk (blk_below (g := gb304) (o := .cells #[.int .i64 a0_0, .int .i64 a0_1, .bool a0_2, .int .i64 a0_3, .string a0_4] 25 (0, 0)) zE11_2 hb); have n1_ := Aside0.mk (blk_below (g := gb305) (o := .cells #[.int .i64 a1_0, .int .i64 a1_1] 23 (0, 0)) zE11_4 hb); have n2_ := Aside0.mk (blk_below (g := gb306) (o := .cells #[.int .i64 0, .int .i64 0, .bool false, .int .i64 0, .string (⟨#[]⟩ : ByteArray)] 25 (0, 0)) zE11_5 hb); have n3_ := Aside0.mk (below_step zE11_1 hb); clear BK304; clear BK305; clear BK306; clear HB; have BK304 := n0_; have BK305 := n1_; have BK306 := n2_; have HB := n3_; clear n0_ n1_ n2_ n3_; (try clear hb); (try clear hb2); (try clear hk); (try clear hi); have hnb171 := NB306_304.out; have hnc171 := NB304_306.out; have hcz172_0 : w170.cell? ⟨gb306, 0, none⟩ = some (.int .i64 0) := (blk_cell BK306.out 0).trans rfl; have hcz172_1 : w170.cell? ⟨gb306, 1, none⟩ = some (.int .i64 0) := (blk_cell BK306.out 1).trans rfl; have hcz172_2 : w170.cell? ⟨gb306, 2, none⟩ = some (.bool false) := (blk_cell BK306.out 2).trans rfl; have hcz172_3 : w170.cell? ⟨gb306, 3, none⟩ = some (.int .i64 0) := (blk_cell BK306.out 3).trans rfl; have hcz172_4 : w170.cell? ⟨gb306, 4, none⟩ = some (.string (⟨#[]⟩ : ByteArray)) := (blk_cell BK306.out 4).trans rfl; have hfz172_0 := blk_frozen BK306.out 0; have hfz172_1 := blk_frozen BK306.out 1; have hfz172_2 := blk_frozen BK306.out 2; have hfz172_3 := blk_frozen BK306.out 3; have hfz172_4 := blk_frozen BK306.out 4))
  refine bodyPost_ret (results_ct rfl _ _ gb306 25 #[.int .i64 0, .int .i64 0, .bool false, .int .i64 0, .string (⟨#[]⟩ : ByteArray)] (0, 0) _ rfl zE11_0 Tryz.underlying25 rfl zE11_6) rfl ?_
  exact ⟨by first | rfl | (simp [errW_none, errW_some] <;> rfl) | (simp [*, errW_none, errW_some] <;> rfl), by repeat (first | (with_reducible first | exact HB.out | apply below_alloc | apply pw_below_drewN | apply below_drew1 | refine below_set ?_ GE304.out | refine below_set ?_ GE305.out | refine below_set ?_ GE306.out) | exact HB.out)⟩

end Go.Proofs.YtjpgjggbanpegaaGreatDoor.E
