/- PRINTED BY A PROGRAM OF THIS SESSION (px.py, over the kit's print): Lean functions with the answers of Go functions of the given program, and proofs that the Go code comes to these answers; each under the conditions that its theorem states. -/
import Derived.Test.YtmeopdjdjmjngaaGreatDoorF0
import Derived.Test.YtmeopdjdjmjngaaGreatDoorF4
import Derived.Test.YtmeopdjdjmjngaaGreatDoorF5
namespace Go.Proofs.YtmeopdjdjmjngaaGreatDoor.F
open Go.RowKit Go.Proofs.YtmeopdjdjmjngaaGreatDoorW.PrintWords Go.Proofs.YtmeopdjdjmjngaaGreatDoorW.PrintLast Go.Proofs.YtmeopdjdjmjngaaGreatDoorW.PrintMore
attribute [local go_sem] max2_int min2_int max_two min_two max_three min_three max_four min_four   -- for this text's walks alone
set_option linter.unusedVariables false
set_option linter.unusedSimpArgs false
theorem zF6_0 {P : Prop} (h : P := by (with_reducible repeat (first | refine blk_drewN ?_ _ | refine blk_drew ?_ | refine blk_alloc ?_ _)); refine blk_put (cs := #[.int .i64 0, .int .i64 0, .bool false, .int .i64 0, .string (⟨#[]⟩ : ByteArray)]) ?_ 4 _ rfl; (with_reducible repeat (first | refine blk_drewN ?_ _ | refine blk_drew ?_ | refine blk_alloc ?_ _)); refine blk_put (cs := #[.int .i64 0, .int .i64 0, .bool false, .int .i64 0, .string (⟨#[]⟩ : ByteArray)]) ?_ 3 _ rfl; (with_reducible repeat (first | refine blk_drewN ?_ _ | refine blk_drew ?_ | refine blk_alloc ?_ _)); refine blk_put (cs := #[.int .i64 0, .int .i64 0, .bool false, .int .i64 0, .string (⟨#[]⟩ : ByteArray)]) ?_ 2 _ rfl; (with_reducible repeat (first | refine blk_drewN ?_ _ | refine blk_drew ?_ | refine blk_alloc ?_ _)); refine blk_put (cs := #[.int .i64 0, .int .i64 0, .bool false, .int .i64 0, .string (⟨#[]⟩ : ByteArray)]) ?_ 1 _ rfl; (with_reducible repeat (first | refine blk_drewN ?_ _ | refine blk_drew ?_ | refine blk_alloc ?_ _)); refine blk_put (cs := #[.int .i64 0, .int .i64 0, .bool false, .int .i64 0, .string (⟨#[]⟩ : ByteArray)]) ?_ 0 _ rfl; (with_reducible repeat (first | refine blk_drewN ?_ _ | refine blk_drew ?_ | refine blk_alloc ?_ _)); exact BK219.out) : P := h
theorem zF6_1 {P : Prop} (h : P := by repeat (first | (with_reducible first | exact HB.out | apply below_alloc | apply pw_below_drewN | apply below_drew1 | refine below_set ?_ GE217.out | refine below_set ?_ GE218.out | refine below_set ?_ GE219.out) | exact HB.out)) : P := h
theorem zF6_2 {P : Prop} (h : P := by (with_reducible repeat (first | refine blk_drewN ?_ _ | refine blk_drew ?_ | refine blk_alloc ?_ _)); exact BK217.out) : P := h
theorem zF6_3 {P : Prop} (h : P := by (with_reducible repeat (first | refine blk_drewN ?_ _ | refine blk_drew ?_ | refine blk_alloc ?_ _)); exact BK218.out) : P := h
theorem zF6_4 {P : Prop} (h : P := by (try simp only [List.map_toArray, List.map_cons, List.map_nil]); first | done | rfl | (simp only [List.length_drop, List.length_take]; rfl)) : P := h
theorem zF6_5 {P : Prop} (h : P := by (with_reducible repeat (first | refine blk_drewN ?_ _ | refine blk_drew ?_ | refine blk_alloc ?_ _)); exact BK219.out) : P := h
theorem zF6_6 {P : Prop} (h : P := by kernel_rfl) : P := h
theorem zF6_7 {P : Prop} (h : P := by repeat (first | (with_reducible first | exact HB.out | apply below_alloc | apply pw_below_drewN | apply below_drew1 | refine below_set ?_ GE217.out | refine below_set ?_ GE218.out) | exact HB.out)) : P := h
theorem zF6_8 {P : Prop} (h : P := by repeat (first | (with_reducible first | exact HB.out | apply below_alloc | apply pw_below_drewN | apply below_drew1 | refine below_set ?_ GE217.out | refine below_set ?_ GE218.out | refine below_set ?_ GE219.out | refine below_set ?_ GE232.out) | exact HB.out)) : P := h
theorem zF6_9 {P : Prop} (h : P := by repeat (first | (with_reducible first | exact HB.out | apply below_alloc | apply pw_below_drewN | apply below_drew1 | refine below_set ?_ GE217.out) | exact HB.out)) : P := h
theorem zF6_10 {P : Prop} (h : P := by repeat (first | (with_reducible first | exact HB.out | apply below_alloc | apply pw_below_drewN | apply below_drew1) | exact HB.out)) : P := h
theorem zF6_11 {P : Prop} (h : P := by first | rfl | (simp; done) | (simp [*]; done)) : P := h
theorem zF6_12 {P : Prop} (h : P := by (with_reducible repeat (first | refine blk_drewN ?_ _ | refine blk_drew ?_ | refine blk_alloc ?_ _)); exact BK232.out) : P := h
theorem zF6_13 {P : Prop} (h : P := by rw [hg]; exact Nat.ne_of_lt (blk_lt (g := gb217) (o := .cells #[.int .i64 a0_0, .int .i64 a0_1, .bool a0_2, .int .i64 a0_3, .string a0_4] 41 (0, 0)) zF6_2)) : P := h
theorem zF6_14 {P : Prop} (h : P := by rw [hg]; exact Nat.ne_of_gt (blk_lt (g := gb217) (o := .cells #[.int .i64 a0_0, .int .i64 a0_1, .bool a0_2, .int .i64 a0_3, .string a0_4] 41 (0, 0)) zF6_2)) : P := h
theorem zF6_15 {P : Prop} (h : P := by rw [hg]; exact Nat.ne_of_lt (blk_lt (g := gb218) (o := .cells #[.int .i64 a1_0, .int .i64 a1_1] 34 (0, 0)) zF6_3)) : P := h
theorem zF6_16 {P : Prop} (h : P := by rw [hg]; exact Nat.ne_of_gt (blk_lt (g := gb218) (o := .cells #[.int .i64 a1_0, .int .i64 a1_1] 34 (0, 0)) zF6_3)) : P := h

/-! ### colonnaderef02_Cast: function 46 -/
mutual
def colonnaderef02_Cast.j0 : Nat → Int → Bool → Int → Int → Bool → Int → ByteArray → Int → Int → Int → Int → Bool → Int → ByteArray → Option (Int × Int × Bool × Int × ByteArray × Int)
 | 0, _, _, _, _, _, _, _, _, _, _, _, _, _, _ => none
 | k + 1, x7, x64, x218000, x218001, x218002, x218003, x218004, x219000, x219001, x233000, x233001, x233002, x233003, x233004 => if x64 = true then (if x7 = 3 then (if x218001 < 0 then (colonnaderef02_Cast.j1 k true x218000 x218001 x218002 x218003 x218004 x219000 x219001 x233000 x233001 x233002 x233003 x233004) else (colonnaderef02_Cast.j1 k (decide (x218001 > 18)) x218000 x218001 x218002 x218003 x218004 x219000 x219001 x233000 x233001 x233002 x233003 x233004)) else (colonnaderef02_Cast.j1 k false x218000 x218001 x218002 x218003 x218004 x219000 x219001 x233000 x233001 x233002 x233003 x233004)) else (some (x233000, x233001, x233002, x233003, x233004, 0))
def colonnaderef02_Cast.j1 : Nat → Bool → Int → Int → Bool → Int → ByteArray → Int → Int → Int → Int → Bool → Int → ByteArray → Option (Int × Int × Bool × Int × ByteArray × Int)
 | 0, _, _, _, _, _, _, _, _, _, _, _, _, _ => none
 | k + 1, x78, x218000, x218001, x218002, x218003, x218004, x219000, x219001, x233000, x233001, x233002, x233003, x233004 => if x78 = true then (some (0, 0, false, 0, (⟨#[]⟩ : ByteArray), 10)) else ((colonnaderef02_scale.f x218000 x218001 x218002 x218003 x218004).bind fun t233 => ((colonnaderef01_Scale.f k x218003 t233 x219001).bind fun bt234 => (if bt234.2 = 0 then (some (x233000, x233001, x233002, bt234.1, x233004, 0)) else (some (0, 0, false, 0, (⟨#[]⟩ : ByteArray), bt234.2)))))
end
def colonnaderef02_Cast.f (k : Nat) (a0_0 : Int) (a0_1 : Int) (a0_2 : Bool) (a0_3 : Int) (a0_4 : ByteArray) (a1_0 : Int) (a1_1 : Int) : Option (Int × Int × Bool × Int × ByteArray × Int) := (colonnaderef02_CheckType.f a1_0 a1_1).bind fun t220 => (if t220 = 0 then ((colonnaderef02_way.f a0_0 a1_0).bind fun t221 => (if t221 = true then (if a0_2 = true then ((colonnaderef02_None.f a1_0 a1_1).bind fun bt222 => (some (bt222.1, bt222.2.1, bt222.2.2.1, bt222.2.2.2.1, bt222.2.2.2.2, 0))) else (if a1_0 = 4 then (if a0_0 = 4 then (if (a0_4.size : Int) > 256 then (some (0, 0, false, 0, (⟨#[]⟩ : ByteArray), 10)) else ((colonnaderef02_OfText.f a0_4).bind fun bt227 => (some (bt227.1, bt227.2.1, bt227.2.2.1, bt227.2.2.2.1, bt227.2.2.2.2, 0)))) else (none)) else (if a0_0 = 4 then (none) else (if a0_0 = 3 then (colonnaderef02_Cast.j0 k a0_0 true a0_0 a0_1 a0_2 a0_3 a0_4 a1_0 a1_1 a1_0 a1_1 false a0_3 (⟨#[]⟩ : ByteArray)) else (colonnaderef02_Cast.j0 k a0_0 (a1_0 == 3) a0_0 a0_1 a0_2 a0_3 a0_4 a1_0 a1_1 a1_0 a1_1 false a0_3 (⟨#[]⟩ : ByteArray)))))) else (some (0, 0, false, 0, (⟨#[]⟩ : ByteArray), 21)))) else (some (0, 0, false, 0, (⟨#[]⟩ : ByteArray), t220)))
theorem colonnaderef02_Cast.mono_l : ∀ k, (∀ y0 y1 y2 y3 y4 y5 y6 y7 y8 y9 y10 y11 y12 y13, LeO (colonnaderef02_Cast.j0 k y0 y1 y2 y3 y4 y5 y6 y7 y8 y9 y10 y11 y12 y13) (colonnaderef02_Cast.j0 (k + 1) y0 y1 y2 y3 y4 y5 y6 y7 y8 y9 y10 y11 y12 y13)) ∧ (∀ y0 y1 y2 y3 y4 y5 y6 y7 y8 y9 y10 y11 y12, LeO (colonnaderef02_Cast.j1 k y0 y1 y2 y3 y4 y5 y6 y7 y8 y9 y10 y11 y12) (colonnaderef02_Cast.j1 (k + 1) y0 y1 y2 y3 y4 y5 y6 y7 y8 y9 y10 y11 y12))
 | 0 => ⟨fun _ _ _ _ _ _ _ _ _ _ _ _ _ _ r h => by simp [colonnaderef02_Cast.j0] at h, fun _ _ _ _ _ _ _ _ _ _ _ _ _ r h => by simp [colonnaderef02_Cast.j1] at h⟩
 | k + 1 => by
  obtain ⟨ih0, ih1⟩ := colonnaderef02_Cast.mono_l k
  refine ⟨?_, ?_⟩
  ·intro y0 y1 y2 y3 y4 y5 y6 y7 y8 y9 y10 y11 y12 y13
   unfold colonnaderef02_Cast.j0
   repeat' first
   | (with_reducible exact ih0 _ _ _ _ _ _ _ _ _ _ _ _ _ _)
   | (with_reducible exact ih1 _ _ _ _ _ _ _ _ _ _ _ _ _)
   | (with_reducible exact colonnaderef01_Scale.mono _ _ _ _)
   | (with_reducible exact LeO.refl _)
   | (with_reducible exact LeO.none _)
   | (with_reducible refine LeO.ite ?_ ?_)
   | (with_reducible refine LeO.bind ?_ (fun _ => ?_))
   | exact ih0 _ _ _ _ _ _ _ _ _ _ _ _ _ _
   | exact ih1 _ _ _ _ _ _ _ _ _ _ _ _ _
   | exact colonnaderef01_Scale.mono _ _ _ _
   | exact LeO.none _
   | refine LeO.ite ?_ ?_
   | refine LeO.bind ?_ (fun _ => ?_)
  ·intro y0 y1 y2 y3 y4 y5 y6 y7 y8 y9 y10 y11 y12
   unfold colonnaderef02_Cast.j1
   repeat' first
   | (with_reducible exact ih0 _ _ _ _ _ _ _ _ _ _ _ _ _ _)
   | (with_reducible exact ih1 _ _ _ _ _ _ _ _ _ _ _ _ _)
   | (with_reducible exact colonnaderef01_Scale.mono _ _ _ _)
   | (with_reducible exact LeO.refl _)
   | (with_reducible exact LeO.none _)
   | (with_reducible refine LeO.ite ?_ ?_)
   | (with_reducible refine LeO.bind ?_ (fun _ => ?_))
   | exact ih0 _ _ _ _ _ _ _ _ _ _ _ _ _ _
   | exact ih1 _ _ _ _ _ _ _ _ _ _ _ _ _
   | exact colonnaderef01_Scale.mono _ _ _ _
   | exact LeO.none _
   | refine LeO.ite ?_ ?_
   | refine LeO.bind ?_ (fun _ => ?_)
theorem colonnaderef02_Cast.mono : ∀ a0 a1 a2 a3 a4 a5 a6 k, LeO (colonnaderef02_Cast.f k a0 a1 a2 a3 a4 a5 a6) (colonnaderef02_Cast.f (k + 1) a0 a1 a2 a3 a4 a5 a6) := by
 intro a0 a1 a2 a3 a4 a5 a6 k
 obtain ⟨ih0, ih1⟩ := colonnaderef02_Cast.mono_l k
 unfold colonnaderef02_Cast.f
 repeat' first
   | (with_reducible exact ih0 _ _ _ _ _ _ _ _ _ _ _ _ _ _)
   | (with_reducible exact ih1 _ _ _ _ _ _ _ _ _ _ _ _ _)
   | (with_reducible exact colonnaderef01_Scale.mono _ _ _ _)
   | (with_reducible exact LeO.refl _)
   | (with_reducible exact LeO.none _)
   | (with_reducible refine LeO.ite ?_ ?_)
   | (with_reducible refine LeO.bind ?_ (fun _ => ?_))
   | exact ih0 _ _ _ _ _ _ _ _ _ _ _ _ _ _
   | exact ih1 _ _ _ _ _ _ _ _ _ _ _ _ _
   | exact colonnaderef01_Scale.mono _ _ _ _
   | exact LeO.none _
   | refine LeO.ite ?_ ?_
   | refine LeO.bind ?_ (fun _ => ?_)
def colonnaderef02_Cast.T22 : Bool × List (List Nat × List Nat) := (true, [([], []), ([0], [0]), ([], []), ([2], [2]), ([], []), ([4], [4]), ([1, 3, 5, 3], [1, 3, 5]), ([6], [6]), ([7], [7]), ([7], [7]), ([8, 6, 0, 1, 2, 3, 4, 5, 6, 7, 8], [8]), ([9, 10, 0, 1, 2, 3, 4, 5, 6, 7, 8, 9, 10], [9])])
def colonnaderef02_Cast.B22 : List Nat := [0, 1, 0, 4, 0, 16, 63, 127, 255, 255, 511, 2047]
theorem colonnaderef02_Cast.tab22 : rtab .any (opsOf Tryz.f46 22) = colonnaderef02_Cast.T22 := by kernel_rfl
theorem colonnaderef02_Cast.bits22 : waitsOk colonnaderef02_Cast.T22.2 colonnaderef02_Cast.B22 = true := by kernel_rfl
set_option maxHeartbeats 8000000 in
set_option maxRecDepth 100000 in
theorem colonnaderef02_Cast.calls (k : Nat) (a0_0 : Int) (a0_1 : Int) (a0_2 : Bool) (a0_3 : Int) (a0_4 : ByteArray) (a1_0 : Int) (a1_1 : Int) (r1 : Int) (r2 : Int) (r3 : Bool) (r4 : Int) (r5 : ByteArray) (r6 : Int) (w : World) (h : colonnaderef02_Cast.f k a0_0 a0_1 a0_2 a0_3 a0_4 a1_0 a1_1 = some (r1, r2, r3, r4, r5, r6)) :
  Calls Tryz.prog 46 #[.agg #[.int .i64 a0_0, .int .i64 a0_1, .bool a0_2, .int .i64 a0_3, .string a0_4], .agg #[.int .i64 a1_0, .int .i64 a1_1]] w fun e w' => e = .returned (.tuple #[.agg #[.int .i64 r1, .int .i64 r2, .bool r3, .int .i64 r4, .string r5], .int .i64 r6]) ∧ Below w.heap.size w w' := by
 have hu41 := Tryz.underlying41
 have hu34 := Tryz.underlying34
 have HB := Aside0.mk (Below.refl w.heap.size w)
 have HF_ := Aside0.mk h
 clear h
 go_enter Tryz.func46, Tryz.ntmps46
 go_upto_region 1 with (first | ((with_reducible refine gate_dst (N := 2) rfl ?_); refine box_event ?hg (N := 2) ?hd (cs := #[.int .i64 a0_0, .int .i64 a0_1, .bool a0_2, .int .i64 a0_3, .string a0_4]) (t := 41) ?hr ?_; (case hd => rfl); (case hg => rfl); (case hr => first | (go_simp; done) | (go_simp; rfl)); intro gb217 hg w9 hbox hb; have n0_ := Aside0.mk (below_step zF6_10 hb); have n1_ := Aside0.mk (hbox); have n2_ := Aside0.mk ((by rw [hg]; exact (below_size zF6_10) : w.heap.size ≤ gb217)); have n3_ := Aside0.mk ((by rw [hg]; exact (below_size zF6_10) : w.heap.size ≤ gb217)); clear HB; have HB := n0_; have BK217 := n1_; have GW217 := n2_; have GE217 := n3_; clear n0_ n1_ n2_ n3_; clear hb hbox hg) | ((with_reducible refine gate_dst (N := 3) rfl ?_); refine box_event ?hg (N := 3) ?hd (cs := #[.int .i64 a1_0, .int .i64 a1_1]) (t := 34) ?hr ?_; (case hd => rfl); (case hg => rfl); (case hr => first | (go_simp; done) | (go_simp; rfl)); intro gb218 hg w10 hbox hb; have n0_ := Aside0.mk (blk_below (g := gb217) (o := .cells #[.int .i64 a0_0, .int .i64 a0_1, .bool a0_2, .int .i64 a0_3, .string a0_4] 41 (0, 0)) zF6_2 hb); have n1_ := Aside0.mk (below_step zF6_9 hb); have n2_ := Aside0.mk (hbox); have n3_ := Aside0.mk ((by rw [hg]; exact (below_size zF6_9) : w.heap.size ≤ gb218)); have n4_ := Aside0.mk ((by rw [hg]; exact (below_size zF6_9) : w.heap.size ≤ gb218)); have n5_ := Aside0.mk ((zF6_13 : gb217 ≠ gb218)); have n6_ := Aside0.mk ((zF6_14 : gb218 ≠ gb217)); clear BK217; clear HB; have BK217 := n0_; have HB := n1_; have BK218 := n2_; have GW218 := n3_; have GE218 := n4_; have NB217_218 := n5_; have NB218_217 := n6_; clear n0_ n1_ n2_ n3_ n4_ n5_ n6_; clear hb hbox hg) | ((with_reducible refine gate_dst (N := 4) rfl ?_); refine box_event ?hg (N := 4) ?hd (cs := #[.int .i64 0, .int .i64 0, .bool false, .int .i64 0, .string (⟨#[]⟩ : ByteArray)]) (t := 41) ?hr ?_; (case hd => rfl); (case hg => rfl); (case hr => first | (go_simp; done) | (go_simp; rfl)); intro gb219 hg w11 hbox hb; have n0_ := Aside0.mk (blk_below (g := gb217) (o := .cells #[.int .i64 a0_0, .int .i64 a0_1, .bool a0_2, .int .i64 a0_3, .string a0_4] 41 (0, 0)) zF6_2 hb); have n1_ := Aside0.mk (blk_below (g := gb218) (o := .cells #[.int .i64 a1_0, .int .i64 a1_1] 34 (0, 0)) zF6_3 hb); have n2_ := Aside0.mk (below_step zF6_7 hb); have n3_ := Aside0.mk (hbox); have n4_ := Aside0.mk ((by rw [hg]; exact (below_size zF6_7) : w.heap.size ≤ gb219)); have n5_ := Aside0.mk ((by rw [hg]; exact (below_size zF6_7) : w.heap.size ≤ gb219)); have n6_ := Aside0.mk ((zF6_13 : gb217 ≠ gb219)); have n7_ := Aside0.mk ((zF6_14 : gb219 ≠ gb217)); have n8_ := Aside0.mk ((zF6_15 : gb218 ≠ gb219)); have n9_ := Aside0.mk ((zF6_16 : gb219 ≠ gb218)); clear BK217; clear BK218; clear HB; have BK217 := n0_; have BK218 := n1_; have HB := n2_; have BK219 := n3_; have GW219 := n4_; have GE219 := n5_; have NB217_219 := n6_; have NB219_217 := n7_; have NB218_219 := n8_; have NB219_218 := n9_; clear n0_ n1_ n2_ n3_ n4_ n5_ n6_ n7_ n8_ n9_; clear hb hbox hg; have hnb12 := NB218_217.out; have hnc12 := NB217_218.out; have hnb13 := NB218_219.out; have hnc13 := NB219_218.out; have hcz14_0 : w11.cell? ⟨gb218, 0, none⟩ = some (.int .i64 a1_0) := (blk_cell BK218.out 0).trans rfl; have hcz14_1 : w11.cell? ⟨gb218, 1, none⟩ = some (.int .i64 a1_1) := (blk_cell BK218.out 1).trans rfl; have hfz14_0 := blk_frozen BK218.out 0; have hfz14_1 := blk_frozen BK218.out 1))
 (try simp only [Act.put, List.setIfInBounds_toArray, List.set_cons_zero, List.set_cons_succ])
 have h := HF_.out
 clear HF_
 have H : ((colonnaderef02_CheckType.f a1_0 a1_1).bind fun t220 => (if t220 = 0 then ((colonnaderef02_way.f a0_0 a1_0).bind fun t221 => (if t221 = true then (if a0_2 = true then ((colonnaderef02_None.f a1_0 a1_1).bind fun bt222 => (some (bt222.1, bt222.2.1, bt222.2.2.1, bt222.2.2.2.1, bt222.2.2.2.2, 0))) else (if a1_0 = 4 then (if a0_0 = 4 then (if (a0_4.size : Int) > 256 then (some (0, 0, false, 0, (⟨#[]⟩ : ByteArray), 10)) else ((colonnaderef02_OfText.f a0_4).bind fun bt227 => (some (bt227.1, bt227.2.1, bt227.2.2.1, bt227.2.2.2.1, bt227.2.2.2.2, 0)))) else (none)) else (if a0_0 = 4 then (none) else (if a0_0 = 3 then (colonnaderef02_Cast.j0 k a0_0 true a0_0 a0_1 a0_2 a0_3 a0_4 a1_0 a1_1 a1_0 a1_1 false a0_3 (⟨#[]⟩ : ByteArray)) else (colonnaderef02_Cast.j0 k a0_0 (a1_0 == 3) a0_0 a0_1 a0_2 a0_3 a0_4 a1_0 a1_1 a1_0 a1_1 false a0_3 (⟨#[]⟩ : ByteArray)))))) else (some (0, 0, false, 0, (⟨#[]⟩ : ByteArray), 21)))) else (some (0, 0, false, 0, (⟨#[]⟩ : ByteArray), t220)))) = some (r1, r2, r3, r4, r5, r6) := h
 clear h
 replace H := Option.bind_eq_some_iff.mp H
 obtain ⟨t220, A30, H⟩ := H
 replace H : (if t220 = 0 then ((colonnaderef02_way.f a0_0 a1_0).bind fun t221 => (if t221 = true then (if a0_2 = true then ((colonnaderef02_None.f a1_0 a1_1).bind fun bt222 => (some (bt222.1, bt222.2.1, bt222.2.2.1, bt222.2.2.2.1, bt222.2.2.2.2, 0))) else (if a1_0 = 4 then (if a0_0 = 4 then (if (a0_4.size : Int) > 256 then (some (0, 0, false, 0, (⟨#[]⟩ : ByteArray), 10)) else ((colonnaderef02_OfText.f a0_4).bind fun bt227 => (some (bt227.1, bt227.2.1, bt227.2.2.1, bt227.2.2.2.1, bt227.2.2.2.2, 0)))) else (none)) else (if a0_0 = 4 then (none) else (if a0_0 = 3 then (colonnaderef02_Cast.j0 k a0_0 true a0_0 a0_1 a0_2 a0_3 a0_4 a1_0 a1_1 a1_0 a1_1 false a0_3 (⟨#[]⟩ : ByteArray)) else (colonnaderef02_Cast.j0 k a0_0 (a1_0 == 3) a0_0 a0_1 a0_2 a0_3 a0_4 a1_0 a1_1 a1_0 a1_1 false a0_3 (⟨#[]⟩ : ByteArray)))))) else (some (0, 0, false, 0, (⟨#[]⟩ : ByteArray), 21)))) else (some (0, 0, false, 0, (⟨#[]⟩ : ByteArray), t220))) = some (r1, r2, r3, r4, r5, r6) := H
 have A3 := Aside0.mk A30
 clear A30
 by_cases c4 : t220 = 0
 ·rw [if_pos c4] at H
  have c4b0 : (t220 == 0) = true := beq_iff_eq.mpr c4
  have c4b1 : (t220 != 0) = false := bne_eq_false_iff_eq.mpr c4
  clear c4
  replace H := Option.bind_eq_some_iff.mp H
  obtain ⟨t221, A50, H⟩ := H
  replace H : (if t221 = true then (if a0_2 = true then ((colonnaderef02_None.f a1_0 a1_1).bind fun bt222 => (some (bt222.1, bt222.2.1, bt222.2.2.1, bt222.2.2.2.1, bt222.2.2.2.2, 0))) else (if a1_0 = 4 then (if a0_0 = 4 then (if (a0_4.size : Int) > 256 then (some (0, 0, false, 0, (⟨#[]⟩ : ByteArray), 10)) else ((colonnaderef02_OfText.f a0_4).bind fun bt227 => (some (bt227.1, bt227.2.1, bt227.2.2.1, bt227.2.2.2.1, bt227.2.2.2.2, 0)))) else (none)) else (if a0_0 = 4 then (none) else (if a0_0 = 3 then (colonnaderef02_Cast.j0 k a0_0 true a0_0 a0_1 a0_2 a0_3 a0_4 a1_0 a1_1 a1_0 a1_1 false a0_3 (⟨#[]⟩ : ByteArray)) else (colonnaderef02_Cast.j0 k a0_0 (a1_0 == 3) a0_0 a0_1 a0_2 a0_3 a0_4 a1_0 a1_1 a1_0 a1_1 false a0_3 (⟨#[]⟩ : ByteArray)))))) else (some (0, 0, false, 0, (⟨#[]⟩ : ByteArray), 21))) = some (r1, r2, r3, r4, r5, r6) := H
  have A5 := Aside0.mk A50
  clear A50
  by_cases c6 : t221 = true
  ·subst c6
   have H1 : (if a0_2 = true then ((colonnaderef02_None.f a1_0 a1_1).bind fun bt222 => (some (bt222.1, bt222.2.1, bt222.2.2.1, bt222.2.2.2.1, bt222.2.2.2.2, 0))) else (if a1_0 = 4 then (if a0_0 = 4 then (if (a0_4.size : Int) > 256 then (some (0, 0, false, 0, (⟨#[]⟩ : ByteArray), 10)) else ((colonnaderef02_OfText.f a0_4).bind fun bt227 => (some (bt227.1, bt227.2.1, bt227.2.2.1, bt227.2.2.2.1, bt227.2.2.2.2, 0)))) else (none)) else (if a0_0 = 4 then (none) else (if a0_0 = 3 then (colonnaderef02_Cast.j0 k a0_0 true a0_0 a0_1 a0_2 a0_3 a0_4 a1_0 a1_1 a1_0 a1_1 false a0_3 (⟨#[]⟩ : ByteArray)) else (colonnaderef02_Cast.j0 k a0_0 (a1_0 == 3) a0_0 a0_1 a0_2 a0_3 a0_4 a1_0 a1_1 a1_0 a1_1 false a0_3 (⟨#[]⟩ : ByteArray)))))) = some (r1, r2, r3, r4, r5, r6) := by rw [if_pos rfl] at H; exact H
   clear H
   have H := H1
   clear H1
   by_cases c7 : a0_2 = true
   ·subst c7
    have H1 : ((colonnaderef02_None.f a1_0 a1_1).bind fun bt222 => (some (bt222.1, bt222.2.1, bt222.2.2.1, bt222.2.2.2.1, bt222.2.2.2.2, 0))) = some (r1, r2, r3, r4, r5, r6) := by rw [if_pos rfl] at H; exact H
    clear H
    have H := H1
    clear H1
    replace H := Option.bind_eq_some_iff.mp H
    obtain ⟨⟨t222, t223, t224, t225, t226⟩, A80, H⟩ := H
    replace H : (some (t222, t223, t224, t225, t226, 0)) = some (r1, r2, r3, r4, r5, r6) := H
    have A8 := Aside0.mk A80
    clear A80
    simp only [Option.some.injEq, Prod.mk.injEq] at H
    obtain ⟨rfl, rfl, rfl, rfl, rfl, rfl⟩ := H
    go_wp2_with (first | ((with_reducible refine gate_callee (f := 54) rfl ?_); refine goesL_ (some 13) rfl rfl Tryz.func54 zF6_6 rfl #[.agg #[.int .i64 a1_0, .int .i64 a1_1]] rfl zF6_4 ?_; (with_reducible refine (colonnaderef02_CheckType.calls a1_0 a1_1 t220 _ A3.out).mono ?_); rintro e w15 ⟨rfl, hb⟩; refine ⟨_, rfl, ?_⟩; have n0_ := Aside0.mk (blk_below (g := gb217) (o := .cells #[.int .i64 a0_0, .int .i64 a0_1, .bool true, .int .i64 a0_3, .string a0_4] 41 (0, 0)) zF6_2 hb); have n1_ := Aside0.mk (blk_below (g := gb218) (o := .cells #[.int .i64 a1_0, .int .i64 a1_1] 34 (0, 0)) zF6_3 hb); have n2_ := Aside0.mk (blk_below (g := gb219) (o := .cells #[.int .i64 0, .int .i64 0, .bool false, .int .i64 0, .string (⟨#[]⟩ : ByteArray)] 41 (0, 0)) zF6_5 hb); have n3_ := Aside0.mk (below_step zF6_1 hb); clear BK217; clear BK218; clear BK219; clear HB; have BK217 := n0_; have BK218 := n1_; have BK219 := n2_; have HB := n3_; clear n0_ n1_ n2_ n3_; (try clear hb); (try clear hb2); (try clear hk); (try clear hi); have hnb16 := NB217_219.out; have hnc16 := NB219_217.out; have hcz17_0 : w15.cell? ⟨gb217, 0, none⟩ = some (.int .i64 a0_0) := (blk_cell BK217.out 0).trans rfl; have hcz17_1 : w15.cell? ⟨gb217, 1, none⟩ = some (.int .i64 a0_1) := (blk_cell BK217.out 1).trans rfl; have hcz17_2 : w15.cell? ⟨gb217, 2, none⟩ = some (.bool true) := (blk_cell BK217.out 2).trans rfl; have hcz17_3 : w15.cell? ⟨gb217, 3, none⟩ = some (.int .i64 a0_3) := (blk_cell BK217.out 3).trans rfl; have hcz17_4 : w15.cell? ⟨gb217, 4, none⟩ = some (.string a0_4) := (blk_cell BK217.out 4).trans rfl; have hfz17_0 := blk_frozen BK217.out 0; have hfz17_1 := blk_frozen BK217.out 1; have hfz17_2 := blk_frozen BK217.out 2; have hfz17_3 := blk_frozen BK217.out 3; have hfz17_4 := blk_frozen BK217.out 4; have hcz18_0 : w15.cell? ⟨gb218, 0, none⟩ = some (.int .i64 a1_0) := (blk_cell BK218.out 0).trans rfl; have hcz18_1 : w15.cell? ⟨gb218, 1, none⟩ = some (.int .i64 a1_1) := (blk_cell BK218.out 1).trans rfl; have hfz18_0 := blk_frozen BK218.out 0; have hfz18_1 := blk_frozen BK218.out 1) | ((with_reducible refine gate_callee (f := 87) rfl ?_); refine goesL_ (some 24) rfl rfl Tryz.func87 zF6_6 rfl #[.int .i64 a0_0, .int .i64 a1_0] rfl zF6_4 ?_; (with_reducible refine (colonnaderef02_way.calls a0_0 a1_0 true _ A5.out).mono ?_); rintro e w' ⟨rfl, ⟨nd, rfl⟩⟩; refine ⟨_, rfl, ?_⟩; (try (rw [drewN_self w15]; generalize hq_ : World.drewN w15 _ = w15; have n0_ : Aside0 (w15.heap[gb217]? = some (.cells #[.int .i64 a0_0, .int .i64 a0_1, .bool true, .int .i64 a0_3, .string a0_4] 41 (0, 0))) := ⟨by rw [← hq_]; exact zF6_2⟩; have n1_ : Aside0 (w15.heap[gb218]? = some (.cells #[.int .i64 a1_0, .int .i64 a1_1] 34 (0, 0))) := ⟨by rw [← hq_]; exact zF6_3⟩; have n2_ : Aside0 (w15.heap[gb219]? = some (.cells #[.int .i64 0, .int .i64 0, .bool false, .int .i64 0, .string (⟨#[]⟩ : ByteArray)] 41 (0, 0))) := ⟨by rw [← hq_]; exact zF6_5⟩; have n3_ : Aside0 (Below w.heap.size w w15) := ⟨by rw [← hq_]; exact zF6_1⟩; clear BK217 BK218 BK219 HB hq_; have BK217 := n0_; have BK218 := n1_; have BK219 := n2_; have HB := n3_; clear n0_ n1_ n2_ n3_; have hcy217_0 : w15.cell? ⟨gb217, 0, none⟩ = some (.int .i64 a0_0) := (blk_cell BK217.out 0).trans rfl; have hfy217_0 := blk_frozen BK217.out 0; have hcy217_1 : w15.cell? ⟨gb217, 1, none⟩ = some (.int .i64 a0_1) := (blk_cell BK217.out 1).trans rfl; have hfy217_1 := blk_frozen BK217.out 1; have hcy217_2 : w15.cell? ⟨gb217, 2, none⟩ = some (.bool true) := (blk_cell BK217.out 2).trans rfl; have hfy217_2 := blk_frozen BK217.out 2; have hcy217_3 : w15.cell? ⟨gb217, 3, none⟩ = some (.int .i64 a0_3) := (blk_cell BK217.out 3).trans rfl; have hfy217_3 := blk_frozen BK217.out 3; have hcy217_4 : w15.cell? ⟨gb217, 4, none⟩ = some (.string a0_4) := (blk_cell BK217.out 4).trans rfl; have hfy217_4 := blk_frozen BK217.out 4; have hcy218_0 : w15.cell? ⟨gb218, 0, none⟩ = some (.int .i64 a1_0) := (blk_cell BK218.out 0).trans rfl; have hfy218_0 := blk_frozen BK218.out 0; have hcy218_1 : w15.cell? ⟨gb218, 1, none⟩ = some (.int .i64 a1_1) := (blk_cell BK218.out 1).trans rfl; have hfy218_1 := blk_frozen BK218.out 1; have hcy219_0 : w15.cell? ⟨gb219, 0, none⟩ = some (.int .i64 0) := (blk_cell BK219.out 0).trans rfl; have hfy219_0 := blk_frozen BK219.out 0; have hcy219_1 : w15.cell? ⟨gb219, 1, none⟩ = some (.int .i64 0) := (blk_cell BK219.out 1).trans rfl; have hfy219_1 := blk_frozen BK219.out 1; have hcy219_2 : w15.cell? ⟨gb219, 2, none⟩ = some (.bool false) := (blk_cell BK219.out 2).trans rfl; have hfy219_2 := blk_frozen BK219.out 2; have hcy219_3 : w15.cell? ⟨gb219, 3, none⟩ = some (.int .i64 0) := (blk_cell BK219.out 3).trans rfl; have hfy219_3 := blk_frozen BK219.out 3; have hcy219_4 : w15.cell? ⟨gb219, 4, none⟩ = some (.string (⟨#[]⟩ : ByteArray)) := (blk_cell BK219.out 4).trans rfl; have hfy219_4 := blk_frozen BK219.out 4))) | ((with_reducible refine gate_callee (f := 44) rfl ?_); refine goesL_ (some 30) rfl rfl Tryz.func44 zF6_6 rfl #[.agg #[.int .i64 a1_0, .int .i64 a1_1]] rfl zF6_4 ?_; (with_reducible refine (colonnaderef02_None.calls a1_0 a1_1 t222 t223 t224 t225 t226 _ A8.out).mono ?_); rintro e w19 ⟨rfl, hb⟩; refine ⟨_, rfl, ?_⟩; have n0_ := Aside0.mk (blk_below (g := gb217) (o := .cells #[.int .i64 a0_0, .int .i64 a0_1, .bool true, .int .i64 a0_3, .string a0_4] 41 (0, 0)) zF6_2 hb); have n1_ := Aside0.mk (blk_below (g := gb218) (o := .cells #[.int .i64 a1_0, .int .i64 a1_1] 34 (0, 0)) zF6_3 hb); have n2_ := Aside0.mk (blk_below (g := gb219) (o := .cells #[.int .i64 0, .int .i64 0, .bool false, .int .i64 0, .string (⟨#[]⟩ : ByteArray)] 41 (0, 0)) zF6_5 hb); have n3_ := Aside0.mk (below_step zF6_1 hb); clear BK217; clear BK218; clear BK219; clear HB; have BK217 := n0_; have BK218 := n1_; have BK219 := n2_; have HB := n3_; clear n0_ n1_ n2_ n3_; (try clear hb); (try clear hb2); (try clear hk); (try clear hi); have hcz20_0 : w19.cell? ⟨gb219, 0, none⟩ = some (.int .i64 0) := (blk_cell BK219.out 0).trans rfl; have hcz20_1 : w19.cell? ⟨gb219, 1, none⟩ = some (.int .i64 0) := (blk_cell BK219.out 1).trans rfl; have hcz20_2 : w19.cell? ⟨gb219, 2, none⟩ = some (.bool false) := (blk_cell BK219.out 2).trans rfl; have hcz20_3 : w19.cell? ⟨gb219, 3, none⟩ = some (.int .i64 0) := (blk_cell BK219.out 3).trans rfl; have hcz20_4 : w19.cell? ⟨gb219, 4, none⟩ = some (.string (⟨#[]⟩ : ByteArray)) := (blk_cell BK219.out 4).trans rfl; have hfz20_0 := blk_frozen BK219.out 0; have hfz20_1 := blk_frozen BK219.out 1; have hfz20_2 := blk_frozen BK219.out 2; have hfz20_3 := blk_frozen BK219.out 3; have hfz20_4 := blk_frozen BK219.out 4))
    refine bodyPost_ret (results_ct rfl _ _ gb219 41 #[.int .i64 t222, .int .i64 t223, .bool t224, .int .i64 t225, .string t226] (0, 0) _ rfl (by (with_reducible repeat (first | refine blk_drewN ?_ _ | refine blk_drew ?_ | refine blk_alloc ?_ _)); refine blk_put (cs := #[.int .i64 t222, .int .i64 t223, .bool t224, .int .i64 t225, .string (⟨#[]⟩ : ByteArray)]) ?_ 4 _ rfl; (with_reducible repeat (first | refine blk_drewN ?_ _ | refine blk_drew ?_ | refine blk_alloc ?_ _)); refine blk_put (cs := #[.int .i64 t222, .int .i64 t223, .bool t224, .int .i64 0, .string (⟨#[]⟩ : ByteArray)]) ?_ 3 _ rfl; (with_reducible repeat (first | refine blk_drewN ?_ _ | refine blk_drew ?_ | refine blk_alloc ?_ _)); refine blk_put (cs := #[.int .i64 t222, .int .i64 t223, .bool false, .int .i64 0, .string (⟨#[]⟩ : ByteArray)]) ?_ 2 _ rfl; (with_reducible repeat (first | refine blk_drewN ?_ _ | refine blk_drew ?_ | refine blk_alloc ?_ _)); refine blk_put (cs := #[.int .i64 t222, .int .i64 0, .bool false, .int .i64 0, .string (⟨#[]⟩ : ByteArray)]) ?_ 1 _ rfl; (with_reducible repeat (first | refine blk_drewN ?_ _ | refine blk_drew ?_ | refine blk_alloc ?_ _)); refine blk_put (cs := #[.int .i64 0, .int .i64 0, .bool false, .int .i64 0, .string (⟨#[]⟩ : ByteArray)]) ?_ 0 _ rfl; (with_reducible repeat (first | refine blk_drewN ?_ _ | refine blk_drew ?_ | refine blk_alloc ?_ _)); exact BK219.out) Tryz.underlying41 rfl zF6_6) rfl ?_
    exact ⟨by first | rfl | (simp [errW_none, errW_some] <;> rfl) | (simp [*, errW_none, errW_some] <;> rfl), by repeat (first | (with_reducible first | exact HB.out | apply below_alloc | apply pw_below_drewN | apply below_drew1 | refine below_set ?_ GE217.out | refine below_set ?_ GE218.out | refine below_set ?_ GE219.out) | exact HB.out)⟩
   ·replace c7 := Bool.eq_false_iff.mpr c7
    subst c7
    have H1 : (if a1_0 = 4 then (if a0_0 = 4 then (if (a0_4.size : Int) > 256 then (some (0, 0, false, 0, (⟨#[]⟩ : ByteArray), 10)) else ((colonnaderef02_OfText.f a0_4).bind fun bt227 => (some (bt227.1, bt227.2.1, bt227.2.2.1, bt227.2.2.2.1, bt227.2.2.2.2, 0)))) else (none)) else (if a0_0 = 4 then (none) else (if a0_0 = 3 then (colonnaderef02_Cast.j0 k a0_0 true a0_0 a0_1 false a0_3 a0_4 a1_0 a1_1 a1_0 a1_1 false a0_3 (⟨#[]⟩ : ByteArray)) else (colonnaderef02_Cast.j0 k a0_0 (a1_0 == 3) a0_0 a0_1 false a0_3 a0_4 a1_0 a1_1 a1_0 a1_1 false a0_3 (⟨#[]⟩ : ByteArray))))) = some (r1, r2, r3, r4, r5, r6) := by rw [if_neg (show ¬ (false = true) by decide)] at H; exact H
    clear H
    have H := H1
    clear H1
    by_cases c21 : a1_0 = 4
    ·rw [if_pos c21] at H
     have c21b0 : (a1_0 == 4) = true := beq_iff_eq.mpr c21
     have c21b1 : (a1_0 != 4) = false := bne_eq_false_iff_eq.mpr c21
     clear c21
     by_cases c22 : a0_0 = 4
     ·rw [if_pos c22] at H
      have c22b0 : (a0_0 == 4) = true := beq_iff_eq.mpr c22
      have c22b1 : (a0_0 != 4) = false := bne_eq_false_iff_eq.mpr c22
      clear c22
      by_cases c23 : (a0_4.size : Int) > 256
      ·rw [if_pos c23] at H
       have c23b0 : decide (256 < (a0_4.size : Int)) = true := decide_eq_true c23
       have c23b1 : decide (256 < a0_4.size) = true := decide_eq_true (by omega)
       clear c23
       simp only [Option.some.injEq, Prod.mk.injEq] at H
       obtain ⟨rfl, rfl, rfl, rfl, rfl, rfl⟩ := H
       go_wp2_with (first | ((with_reducible refine gate_callee (f := 54) rfl ?_); refine goesL_ (some 13) rfl rfl Tryz.func54 zF6_6 rfl #[.agg #[.int .i64 a1_0, .int .i64 a1_1]] rfl zF6_4 ?_; (with_reducible refine (colonnaderef02_CheckType.calls a1_0 a1_1 t220 _ A3.out).mono ?_); rintro e w30 ⟨rfl, hb⟩; refine ⟨_, rfl, ?_⟩; have n0_ := Aside0.mk (blk_below (g := gb217) (o := .cells #[.int .i64 a0_0, .int .i64 a0_1, .bool false, .int .i64 a0_3, .string a0_4] 41 (0, 0)) zF6_2 hb); have n1_ := Aside0.mk (blk_below (g := gb218) (o := .cells #[.int .i64 a1_0, .int .i64 a1_1] 34 (0, 0)) zF6_3 hb); have n2_ := Aside0.mk (blk_below (g := gb219) (o := .cells #[.int .i64 0, .int .i64 0, .bool false, .int .i64 0, .string (⟨#[]⟩ : ByteArray)] 41 (0, 0)) zF6_5 hb); have n3_ := Aside0.mk (below_step zF6_1 hb); clear BK217; clear BK218; clear BK219; clear HB; have BK217 := n0_; have BK218 := n1_; have BK219 := n2_; have HB := n3_; clear n0_ n1_ n2_ n3_; (try clear hb); (try clear hb2); (try clear hk); (try clear hi); have hnb31 := NB217_219.out; have hnc31 := NB219_217.out; have hcz32_0 : w30.cell? ⟨gb217, 0, none⟩ = some (.int .i64 a0_0) := (blk_cell BK217.out 0).trans rfl; have hcz32_1 : w30.cell? ⟨gb217, 1, none⟩ = some (.int .i64 a0_1) := (blk_cell BK217.out 1).trans rfl; have hcz32_2 : w30.cell? ⟨gb217, 2, none⟩ = some (.bool false) := (blk_cell BK217.out 2).trans rfl; have hcz32_3 : w30.cell? ⟨gb217, 3, none⟩ = some (.int .i64 a0_3) := (blk_cell BK217.out 3).trans rfl; have hcz32_4 : w30.cell? ⟨gb217, 4, none⟩ = some (.string a0_4) := (blk_cell BK217.out 4).trans rfl; have hfz32_0 := blk_frozen BK217.out 0; have hfz32_1 := blk_frozen BK217.out 1; have hfz32_2 := blk_frozen BK217.out 2; have hfz32_3 := blk_frozen BK217.out 3; have hfz32_4 := blk_frozen BK217.out 4; have hcz33_0 : w30.cell? ⟨gb218, 0, none⟩ = some (.int .i64 a1_0) := (blk_cell BK218.out 0).trans rfl; have hcz33_1 : w30.cell? ⟨gb218, 1, none⟩ = some (.int .i64 a1_1) := (blk_cell BK218.out 1).trans rfl; have hfz33_0 := blk_frozen BK218.out 0; have hfz33_1 := blk_frozen BK218.out 1) | ((with_reducible refine gate_callee (f := 87) rfl ?_); refine goesL_ (some 24) rfl rfl Tryz.func87 zF6_6 rfl #[.int .i64 a0_0, .int .i64 a1_0] rfl zF6_4 ?_; (with_reducible refine (colonnaderef02_way.calls a0_0 a1_0 true _ A5.out).mono ?_); rintro e w' ⟨rfl, ⟨nd, rfl⟩⟩; refine ⟨_, rfl, ?_⟩; (try (rw [drewN_self w30]; generalize hq_ : World.drewN w30 _ = w30; have n0_ : Aside0 (w30.heap[gb217]? = some (.cells #[.int .i64 a0_0, .int .i64 a0_1, .bool false, .int .i64 a0_3, .string a0_4] 41 (0, 0))) := ⟨by rw [← hq_]; exact zF6_2⟩; have n1_ : Aside0 (w30.heap[gb218]? = some (.cells #[.int .i64 a1_0, .int .i64 a1_1] 34 (0, 0))) := ⟨by rw [← hq_]; exact zF6_3⟩; have n2_ : Aside0 (w30.heap[gb219]? = some (.cells #[.int .i64 0, .int .i64 0, .bool false, .int .i64 0, .string (⟨#[]⟩ : ByteArray)] 41 (0, 0))) := ⟨by rw [← hq_]; exact zF6_5⟩; have n3_ : Aside0 (Below w.heap.size w w30) := ⟨by rw [← hq_]; exact zF6_1⟩; clear BK217 BK218 BK219 HB hq_; have BK217 := n0_; have BK218 := n1_; have BK219 := n2_; have HB := n3_; clear n0_ n1_ n2_ n3_; have hcy217_0 : w30.cell? ⟨gb217, 0, none⟩ = some (.int .i64 a0_0) := (blk_cell BK217.out 0).trans rfl; have hfy217_0 := blk_frozen BK217.out 0; have hcy217_1 : w30.cell? ⟨gb217, 1, none⟩ = some (.int .i64 a0_1) := (blk_cell BK217.out 1).trans rfl; have hfy217_1 := blk_frozen BK217.out 1; have hcy217_2 : w30.cell? ⟨gb217, 2, none⟩ = some (.bool false) := (blk_cell BK217.out 2).trans rfl; have hfy217_2 := blk_frozen BK217.out 2; have hcy217_3 : w30.cell? ⟨gb217, 3, none⟩ = some (.int .i64 a0_3) := (blk_cell BK217.out 3).trans rfl; have hfy217_3 := blk_frozen BK217.out 3; have hcy217_4 : w30.cell? ⟨gb217, 4, none⟩ = some (.string a0_4) := (blk_cell BK217.out 4).trans rfl; have hfy217_4 := blk_frozen BK217.out 4; have hcy218_0 : w30.cell? ⟨gb218, 0, none⟩ = some (.int .i64 a1_0) := (blk_cell BK218.out 0).trans rfl; have hfy218_0 := blk_frozen BK218.out 0; have hcy218_1 : w30.cell? ⟨gb218, 1, none⟩ = some (.int .i64 a1_1) := (blk_cell BK218.out 1).trans rfl; have hfy218_1 := blk_frozen BK218.out 1; have hcy219_0 : w30.cell? ⟨gb219, 0, none⟩ = some (.int .i64 0) := (blk_cell BK219.out 0).trans rfl; have hfy219_0 := blk_frozen BK219.out 0; have hcy219_1 : w30.cell? ⟨gb219, 1, none⟩ = some (.int .i64 0) := (blk_cell BK219.out 1).trans rfl; have hfy219_1 := blk_frozen BK219.out 1; have hcy219_2 : w30.cell? ⟨gb219, 2, none⟩ = some (.bool false) := (blk_cell BK219.out 2).trans rfl; have hfy219_2 := blk_frozen BK219.out 2; have hcy219_3 : w30.cell? ⟨gb219, 3, none⟩ = some (.int .i64 0) := (blk_cell BK219.out 3).trans rfl; have hfy219_3 := blk_frozen BK219.out 3; have hcy219_4 : w30.cell? ⟨gb219, 4, none⟩ = some (.string (⟨#[]⟩ : ByteArray)) := (blk_cell BK219.out 4).trans rfl; have hfy219_4 := blk_frozen BK219.out 4)); have hcz34_0 : w30.cell? ⟨gb219, 0, none⟩ = some (.int .i64 0) := (blk_cell BK219.out 0).trans rfl; have hcz34_1 : w30.cell? ⟨gb219, 1, none⟩ = some (.int .i64 0) := (blk_cell BK219.out 1).trans rfl; have hcz34_2 : w30.cell? ⟨gb219, 2, none⟩ = some (.bool false) := (blk_cell BK219.out 2).trans rfl; have hcz34_3 : w30.cell? ⟨gb219, 3, none⟩ = some (.int .i64 0) := (blk_cell BK219.out 3).trans rfl; have hcz34_4 : w30.cell? ⟨gb219, 4, none⟩ = some (.string (⟨#[]⟩ : ByteArray)) := (blk_cell BK219.out 4).trans rfl; have hfz34_0 := blk_frozen BK219.out 0; have hfz34_1 := blk_frozen BK219.out 1; have hfz34_2 := blk_frozen BK219.out 2; have hfz34_3 := blk_frozen BK219.out 3; have hfz34_4 := blk_frozen BK219.out 4))
       refine bodyPost_ret (results_ct rfl _ _ gb219 41 #[.int .i64 0, .int .i64 0, .bool false, .int .i64 0, .string (⟨#[]⟩ : ByteArray)] (0, 0) _ rfl zF6_0 Tryz.underlying41 rfl zF6_6) rfl ?_
       exact ⟨by first | rfl | (simp [errW_none, errW_some] <;> rfl) | (simp [*, errW_none, errW_some] <;> rfl), by repeat (first | (with_reducible first | exact HB.out | apply below_alloc | apply pw_below_drewN | apply below_drew1 | refine below_set ?_ GE217.out | refine below_set ?_ GE218.out | refine below_set ?_ GE219.out) | exact HB.out)⟩
      ·rw [if_neg c23] at H
       have c23b0 : decide (256 < (a0_4.size : Int)) = false := decide_eq_false c23
       have c23b1 : decide (256 < a0_4.size) = false := decide_eq_false (by omega)
       clear c23
       replace H := Option.bind_eq_some_iff.mp H
       obtain ⟨⟨t227, t228, t229, t230, t231⟩, A350, H⟩ := H
       replace H : (some (t227, t228, t229, t230, t231, 0)) = some (r1, r2, r3, r4, r5, r6) := H
       have A35 := Aside0.mk A350
       clear A350
       simp only [Option.some.injEq, Prod.mk.injEq] at H
       obtain ⟨rfl, rfl, rfl, rfl, rfl, rfl⟩ := H
       go_wp2_with (first | ((with_reducible refine gate_callee (f := 54) rfl ?_); refine goesL_ (some 13) rfl rfl Tryz.func54 zF6_6 rfl #[.agg #[.int .i64 a1_0, .int .i64 a1_1]] rfl zF6_4 ?_; (with_reducible refine (colonnaderef02_CheckType.calls a1_0 a1_1 t220 _ A3.out).mono ?_); rintro e w42 ⟨rfl, hb⟩; refine ⟨_, rfl, ?_⟩; have n0_ := Aside0.mk (blk_below (g := gb217) (o := .cells #[.int .i64 a0_0, .int .i64 a0_1, .bool false, .int .i64 a0_3, .string a0_4] 41 (0, 0)) zF6_2 hb); have n1_ := Aside0.mk (blk_below (g := gb218) (o := .cells #[.int .i64 a1_0, .int .i64 a1_1] 34 (0, 0)) zF6_3 hb); have n2_ := Aside0.mk (blk_below (g := gb219) (o := .cells #[.int .i64 0, .int .i64 0, .bool false, .int .i64 0, .string (⟨#[]⟩ : ByteArray)] 41 (0, 0)) zF6_5 hb); have n3_ := Aside0.mk (below_step zF6_1 hb); clear BK217; clear BK218; clear BK219; clear HB; have BK217 := n0_; have BK218 := n1_; have BK219 := n2_; have HB := n3_; clear n0_ n1_ n2_ n3_; (try clear hb); (try clear hb2); (try clear hk); (try clear hi); have hnb43 := NB217_219.out; have hnc43 := NB219_217.out; have hcz44_0 : w42.cell? ⟨gb217, 0, none⟩ = some (.int .i64 a0_0) := (blk_cell BK217.out 0).trans rfl; have hcz44_1 : w42.cell? ⟨gb217, 1, none⟩ = some (.int .i64 a0_1) := (blk_cell BK217.out 1).trans rfl; have hcz44_2 : w42.cell? ⟨gb217, 2, none⟩ = some (.bool false) := (blk_cell BK217.out 2).trans rfl; have hcz44_3 : w42.cell? ⟨gb217, 3, none⟩ = some (.int .i64 a0_3) := (blk_cell BK217.out 3).trans rfl; have hcz44_4 : w42.cell? ⟨gb217, 4, none⟩ = some (.string a0_4) := (blk_cell BK217.out 4).trans rfl; have hfz44_0 := blk_frozen BK217.out 0; have hfz44_1 := blk_frozen BK217.out 1; have hfz44_2 := blk_frozen BK217.out 2; have hfz44_3 := blk_frozen BK217.out 3; have hfz44_4 := blk_frozen BK217.out 4; have hcz45_0 : w42.cell? ⟨gb218, 0, none⟩ = some (.int .i64 a1_0) := (blk_cell BK218.out 0).trans rfl; have hcz45_1 : w42.cell? ⟨gb218, 1, none⟩ = some (.int .i64 a1_1) := (blk_cell BK218.out 1).trans rfl; have hfz45_0 := blk_frozen BK218.out 0; have hfz45_1 := blk_frozen BK218.out 1) | ((with_reducible refine gate_callee (f := 87) rfl ?_); refine goesL_ (some 24) rfl rfl Tryz.func87 zF6_6 rfl #[.int .i64 a0_0, .int .i64 a1_0] rfl zF6_4 ?_; (with_reducible refine (colonnaderef02_way.calls a0_0 a1_0 true _ A5.out).mono ?_); rintro e w' ⟨rfl, ⟨nd, rfl⟩⟩; refine ⟨_, rfl, ?_⟩; (try (rw [drewN_self w42]; generalize hq_ : World.drewN w42 _ = w42; have n0_ : Aside0 (w42.heap[gb217]? = some (.cells #[.int .i64 a0_0, .int .i64 a0_1, .bool false, .int .i64 a0_3, .string a0_4] 41 (0, 0))) := ⟨by rw [← hq_]; exact zF6_2⟩; have n1_ : Aside0 (w42.heap[gb218]? = some (.cells #[.int .i64 a1_0, .int .i64 a1_1] 34 (0, 0))) := ⟨by rw [← hq_]; exact zF6_3⟩; have n2_ : Aside0 (w42.heap[gb219]? = some (.cells #[.int .i64 0, .int .i64 0, .bool false, .int .i64 0, .string (⟨#[]⟩ : ByteArray)] 41 (0, 0))) := ⟨by rw [← hq_]; exact zF6_5⟩; have n3_ : Aside0 (Below w.heap.size w w42) := ⟨by rw [← hq_]; exact zF6_1⟩; clear BK217 BK218 BK219 HB hq_; have BK217 := n0_; have BK218 := n1_; have BK219 := n2_; have HB := n3_; clear n0_ n1_ n2_ n3_; have hcy217_0 : w42.cell? ⟨gb217, 0, none⟩ = some (.int .i64 a0_0) := (blk_cell BK217.out 0).trans rfl; have hfy217_0 := blk_frozen BK217.out 0; have hcy217_1 : w42.cell? ⟨gb217, 1, none⟩ = some (.int .i64 a0_1) := (blk_cell BK217.out 1).trans rfl; have hfy217_1 := blk_frozen BK217.out 1; have hcy217_2 : w42.cell? ⟨gb217, 2, none⟩ = some (.bool false) := (blk_cell BK217.out 2).trans rfl; have hfy217_2 := blk_frozen BK217.out 2; have hcy217_3 : w42.cell? ⟨gb217, 3, none⟩ = some (.int .i64 a0_3) := (blk_cell BK217.out 3).trans rfl; have hfy217_3 := blk_frozen BK217.out 3; have hcy217_4 : w42.cell? ⟨gb217, 4, none⟩ = some (.string a0_4) := (blk_cell BK217.out 4).trans rfl; have hfy217_4 := blk_frozen BK217.out 4; have hcy218_0 : w42.cell? ⟨gb218, 0, none⟩ = some (.int .i64 a1_0) := (blk_cell BK218.out 0).trans rfl; have hfy218_0 := blk_frozen BK218.out 0; have hcy218_1 : w42.cell? ⟨gb218, 1, none⟩ = some (.int .i64 a1_1) := (blk_cell BK218.out 1).trans rfl; have hfy218_1 := blk_frozen BK218.out 1; have hcy219_0 : w42.cell? ⟨gb219, 0, none⟩ = some (.int .i64 0) := (blk_cell BK219.out 0).trans rfl; have hfy219_0 := blk_frozen BK219.out 0; have hcy219_1 : w42.cell? ⟨gb219, 1, none⟩ = some (.int .i64 0) := (blk_cell BK219.out 1).trans rfl; have hfy219_1 := blk_frozen BK219.out 1; have hcy219_2 : w42.cell? ⟨gb219, 2, none⟩ = some (.bool false) := (blk_cell BK219.out 2).trans rfl; have hfy219_2 := blk_frozen BK219.out 2; have hcy219_3 : w42.cell? ⟨gb219, 3, none⟩ = some (.int .i64 0) := (blk_cell BK219.out 3).trans rfl; have hfy219_3 := blk_frozen BK219.out 3; have hcy219_4 : w42.cell? ⟨gb219, 4, none⟩ = some (.string (⟨#[]⟩ : ByteArray)) := (blk_cell BK219.out 4).trans rfl; have hfy219_4 := blk_frozen BK219.out 4))) | ((with_reducible refine gate_callee (f := 89) rfl ?_); refine goesL_ (some 45) rfl rfl Tryz.func89 zF6_6 rfl #[.string a0_4] rfl zF6_4 ?_; (with_reducible refine (colonnaderef02_OfText.calls a0_4 t227 t228 t229 t230 t231 _ A35.out).mono ?_); rintro e w46 ⟨rfl, hb⟩; refine ⟨_, rfl, ?_⟩; have n0_ := Aside0.mk (blk_below (g := gb217) (o := .cells #[.int .i64 a0_0, .int .i64 a0_1, .bool false, .int .i64 a0_3, .string a0_4] 41 (0, 0)) zF6_2 hb); have n1_ := Aside0.mk (blk_below (g := gb218) (o := .cells #[.int .i64 a1_0, .int .i64 a1_1] 34 (0, 0)) zF6_3 hb); have n2_ := Aside0.mk (blk_below (g := gb219) (o := .cells #[.int .i64 0, .int .i64 0, .bool false, .int .i64 0, .string (⟨#[]⟩ : ByteArray)] 41 (0, 0)) zF6_5 hb); have n3_ := Aside0.mk (below_step zF6_1 hb); clear BK217; clear BK218; clear BK219; clear HB; have BK217 := n0_; have BK218 := n1_; have BK219 := n2_; have HB := n3_; clear n0_ n1_ n2_ n3_; (try clear hb); (try clear hb2); (try clear hk); (try clear hi); have hcz47_0 : w46.cell? ⟨gb219, 0, none⟩ = some (.int .i64 0) := (blk_cell BK219.out 0).trans rfl; have hcz47_1 : w46.cell? ⟨gb219, 1, none⟩ = some (.int .i64 0) := (blk_cell BK219.out 1).trans rfl; have hcz47_2 : w46.cell? ⟨gb219, 2, none⟩ = some (.bool false) := (blk_cell BK219.out 2).trans rfl; have hcz47_3 : w46.cell? ⟨gb219, 3, none⟩ = some (.int .i64 0) := (blk_cell BK219.out 3).trans rfl; have hcz47_4 : w46.cell? ⟨gb219, 4, none⟩ = some (.string (⟨#[]⟩ : ByteArray)) := (blk_cell BK219.out 4).trans rfl; have hfz47_0 := blk_frozen BK219.out 0; have hfz47_1 := blk_frozen BK219.out 1; have hfz47_2 := blk_frozen BK219.out 2; have hfz47_3 := blk_frozen BK219.out 3; have hfz47_4 := blk_frozen BK219.out 4))
       refine bodyPost_ret (results_ct rfl _ _ gb219 41 #[.int .i64 t227, .int .i64 t228, .bool t229, .int .i64 t230, .string t231] (0, 0) _ rfl (by (with_reducible repeat (first | refine blk_drewN ?_ _ | refine blk_drew ?_ | refine blk_alloc ?_ _)); refine blk_put (cs := #[.int .i64 t227, .int .i64 t228, .bool t229, .int .i64 t230, .string (⟨#[]⟩ : ByteArray)]) ?_ 4 _ rfl; (with_reducible repeat (first | refine blk_drewN ?_ _ | refine blk_drew ?_ | refine blk_alloc ?_ _)); refine blk_put (cs := #[.int .i64 t227, .int .i64 t228, .bool t229, .int .i64 0, .string (⟨#[]⟩ : ByteArray)]) ?_ 3 _ rfl; (with_reducible repeat (first | refine blk_drewN ?_ _ | refine blk_drew ?_ | refine blk_alloc ?_ _)); refine blk_put (cs := #[.int .i64 t227, .int .i64 t228, .bool false, .int .i64 0, .string (⟨#[]⟩ : ByteArray)]) ?_ 2 _ rfl; (with_reducible repeat (first | refine blk_drewN ?_ _ | refine blk_drew ?_ | refine blk_alloc ?_ _)); refine blk_put (cs := #[.int .i64 t227, .int .i64 0, .bool false, .int .i64 0, .string (⟨#[]⟩ : ByteArray)]) ?_ 1 _ rfl; (with_reducible repeat (first | refine blk_drewN ?_ _ | refine blk_drew ?_ | refine blk_alloc ?_ _)); refine blk_put (cs := #[.int .i64 0, .int .i64 0, .bool false, .int .i64 0, .string (⟨#[]⟩ : ByteArray)]) ?_ 0 _ rfl; (with_reducible repeat (first | refine blk_drewN ?_ _ | refine blk_drew ?_ | refine blk_alloc ?_ _)); exact BK219.out) Tryz.underlying41 rfl zF6_6) rfl ?_
       exact ⟨by first | rfl | (simp [errW_none, errW_some] <;> rfl) | (simp [*, errW_none, errW_some] <;> rfl), by repeat (first | (with_reducible first | exact HB.out | apply below_alloc | apply pw_below_drewN | apply below_drew1 | refine below_set ?_ GE217.out | refine below_set ?_ GE218.out | refine below_set ?_ GE219.out) | exact HB.out)⟩
     ·rw [if_neg c22] at H
      have c22b0 : (a0_0 == 4) = false := beq_eq_false_iff_ne.mpr c22
      have c22b1 : (a0_0 != 4) = true := bne_iff_ne.mpr c22
      exact absurd H (by simp)
    ·rw [if_neg c21] at H
     have c21b0 : (a1_0 == 4) = false := beq_eq_false_iff_ne.mpr c21
     have c21b1 : (a1_0 != 4) = true := bne_iff_ne.mpr c21
     by_cases c48 : a0_0 = 4
     ·rw [if_pos c48] at H
      have c48b0 : (a0_0 == 4) = true := beq_iff_eq.mpr c48
      have c48b1 : (a0_0 != 4) = false := bne_eq_false_iff_eq.mpr c48
      clear c48
      exact absurd H (by simp)
     ·rw [if_neg c48] at H
      have c48b0 : (a0_0 == 4) = false := beq_eq_false_iff_ne.mpr c48
      have c48b1 : (a0_0 != 4) = true := bne_iff_ne.mpr c48
      have HC49 := Aside0.mk H
      clear H
      go_upto_region 19 with (first | ((with_reducible refine gate_callee (f := 54) rfl ?_); refine goesL_ (some 13) rfl rfl Tryz.func54 zF6_6 rfl #[.agg #[.int .i64 a1_0, .int .i64 a1_1]] rfl zF6_4 ?_; (with_reducible refine (colonnaderef02_CheckType.calls a1_0 a1_1 t220 _ A3.out).mono ?_); rintro e w56 ⟨rfl, hb⟩; refine ⟨_, rfl, ?_⟩; have n0_ := Aside0.mk (blk_below (g := gb217) (o := .cells #[.int .i64 a0_0, .int .i64 a0_1, .bool false, .int .i64 a0_3, .string a0_4] 41 (0, 0)) zF6_2 hb); have n1_ := Aside0.mk (blk_below (g := gb218) (o := .cells #[.int .i64 a1_0, .int .i64 a1_1] 34 (0, 0)) zF6_3 hb); have n2_ := Aside0.mk (blk_below (g := gb219) (o := .cells #[.int .i64 0, .int .i64 0, .bool false, .int .i64 0, .string (⟨#[]⟩ : ByteArray)] 41 (0, 0)) zF6_5 hb); have n3_ := Aside0.mk (below_step zF6_1 hb); clear BK217; clear BK218; clear BK219; clear HB; have BK217 := n0_; have BK218 := n1_; have BK219 := n2_; have HB := n3_; clear n0_ n1_ n2_ n3_; (try clear hb); (try clear hb2); (try clear hk); (try clear hi); have hnb57 := NB217_219.out; have hnc57 := NB219_217.out; have hcz58_0 : w56.cell? ⟨gb217, 0, none⟩ = some (.int .i64 a0_0) := (blk_cell BK217.out 0).trans rfl; have hcz58_1 : w56.cell? ⟨gb217, 1, none⟩ = some (.int .i64 a0_1) := (blk_cell BK217.out 1).trans rfl; have hcz58_2 : w56.cell? ⟨gb217, 2, none⟩ = some (.bool false) := (blk_cell BK217.out 2).trans rfl; have hcz58_3 : w56.cell? ⟨gb217, 3, none⟩ = some (.int .i64 a0_3) := (blk_cell BK217.out 3).trans rfl; have hcz58_4 : w56.cell? ⟨gb217, 4, none⟩ = some (.string a0_4) := (blk_cell BK217.out 4).trans rfl; have hfz58_0 := blk_frozen BK217.out 0; have hfz58_1 := blk_frozen BK217.out 1; have hfz58_2 := blk_frozen BK217.out 2; have hfz58_3 := blk_frozen BK217.out 3; have hfz58_4 := blk_frozen BK217.out 4; have hcz59_0 : w56.cell? ⟨gb218, 0, none⟩ = some (.int .i64 a1_0) := (blk_cell BK218.out 0).trans rfl; have hcz59_1 : w56.cell? ⟨gb218, 1, none⟩ = some (.int .i64 a1_1) := (blk_cell BK218.out 1).trans rfl; have hfz59_0 := blk_frozen BK218.out 0; have hfz59_1 := blk_frozen BK218.out 1) | ((with_reducible refine gate_callee (f := 87) rfl ?_); refine goesL_ (some 24) rfl rfl Tryz.func87 zF6_6 rfl #[.int .i64 a0_0, .int .i64 a1_0] rfl zF6_4 ?_; (with_reducible refine (colonnaderef02_way.calls a0_0 a1_0 true _ A5.out).mono ?_); rintro e w' ⟨rfl, ⟨nd, rfl⟩⟩; refine ⟨_, rfl, ?_⟩; (try (rw [drewN_self w56]; generalize hq_ : World.drewN w56 _ = w56; have n0_ : Aside0 (w56.heap[gb217]? = some (.cells #[.int .i64 a0_0, .int .i64 a0_1, .bool false, .int .i64 a0_3, .string a0_4] 41 (0, 0))) := ⟨by rw [← hq_]; exact zF6_2⟩; have n1_ : Aside0 (w56.heap[gb218]? = some (.cells #[.int .i64 a1_0, .int .i64 a1_1] 34 (0, 0))) := ⟨by rw [← hq_]; exact zF6_3⟩; have n2_ : Aside0 (w56.heap[gb219]? = some (.cells #[.int .i64 0, .int .i64 0, .bool false, .int .i64 0, .string (⟨#[]⟩ : ByteArray)] 41 (0, 0))) := ⟨by rw [← hq_]; exact zF6_5⟩; have n3_ : Aside0 (Below w.heap.size w w56) := ⟨by rw [← hq_]; exact zF6_1⟩; clear BK217 BK218 BK219 HB hq_; have BK217 := n0_; have BK218 := n1_; have BK219 := n2_; have HB := n3_; clear n0_ n1_ n2_ n3_; have hcy217_0 : w56.cell? ⟨gb217, 0, none⟩ = some (.int .i64 a0_0) := (blk_cell BK217.out 0).trans rfl; have hfy217_0 := blk_frozen BK217.out 0; have hcy217_1 : w56.cell? ⟨gb217, 1, none⟩ = some (.int .i64 a0_1) := (blk_cell BK217.out 1).trans rfl; have hfy217_1 := blk_frozen BK217.out 1; have hcy217_2 : w56.cell? ⟨gb217, 2, none⟩ = some (.bool false) := (blk_cell BK217.out 2).trans rfl; have hfy217_2 := blk_frozen BK217.out 2; have hcy217_3 : w56.cell? ⟨gb217, 3, none⟩ = some (.int .i64 a0_3) := (blk_cell BK217.out 3).trans rfl; have hfy217_3 := blk_frozen BK217.out 3; have hcy217_4 : w56.cell? ⟨gb217, 4, none⟩ = some (.string a0_4) := (blk_cell BK217.out 4).trans rfl; have hfy217_4 := blk_frozen BK217.out 4; have hcy218_0 : w56.cell? ⟨gb218, 0, none⟩ = some (.int .i64 a1_0) := (blk_cell BK218.out 0).trans rfl; have hfy218_0 := blk_frozen BK218.out 0; have hcy218_1 : w56.cell? ⟨gb218, 1, none⟩ = some (.int .i64 a1_1) := (blk_cell BK218.out 1).trans rfl; have hfy218_1 := blk_frozen BK218.out 1; have hcy219_0 : w56.cell? ⟨gb219, 0, none⟩ = some (.int .i64 0) := (blk_cell BK219.out 0).trans rfl; have hfy219_0 := blk_frozen BK219.out 0; have hcy219_1 : w56.cell? ⟨gb219, 1, none⟩ = some (.int .i64 0) := (blk_cell BK219.out 1).trans rfl; have hfy219_1 := blk_frozen BK219.out 1; have hcy219_2 : w56.cell? ⟨gb219, 2, none⟩ = some (.bool false) := (blk_cell BK219.out 2).trans rfl; have hfy219_2 := blk_frozen BK219.out 2; have hcy219_3 : w56.cell? ⟨gb219, 3, none⟩ = some (.int .i64 0) := (blk_cell BK219.out 3).trans rfl; have hfy219_3 := blk_frozen BK219.out 3; have hcy219_4 : w56.cell? ⟨gb219, 4, none⟩ = some (.string (⟨#[]⟩ : ByteArray)) := (blk_cell BK219.out 4).trans rfl; have hfy219_4 := blk_frozen BK219.out 4))) | ((with_reducible refine gate_dst (N := 9) rfl ?_); refine box_event ?hg (N := 9) ?hd (cs := #[.int .i64 0, .int .i64 0, .bool false, .int .i64 0, .string (⟨#[]⟩ : ByteArray)]) (t := 41) ?hr ?_; (case hd => rfl); (case hg => rfl); (case hr => first | (go_simp; done) | (go_simp; rfl)); intro gb232 hg w60 hbox hb; have n0_ := Aside0.mk (blk_below (g := gb217) (o := .cells #[.int .i64 a0_0, .int .i64 a0_1, .bool false, .int .i64 a0_3, .string a0_4] 41 (0, 0)) zF6_2 hb); have n1_ := Aside0.mk (blk_below (g := gb218) (o := .cells #[.int .i64 a1_0, .int .i64 a1_1] 34 (0, 0)) zF6_3 hb); have n2_ := Aside0.mk (blk_below (g := gb219) (o := .cells #[.int .i64 0, .int .i64 0, .bool false, .int .i64 0, .string (⟨#[]⟩ : ByteArray)] 41 (0, 0)) zF6_5 hb); have n3_ := Aside0.mk (below_step zF6_1 hb); have n4_ := Aside0.mk (hbox); have n5_ := Aside0.mk ((by rw [hg]; exact (below_size zF6_1) : w.heap.size ≤ gb232)); have n6_ := Aside0.mk ((by rw [hg]; exact (below_size zF6_1) : w.heap.size ≤ gb232)); have n7_ := Aside0.mk ((by rw [hg]; exact Nat.ne_of_lt (blk_lt (g := gb217) (o := .cells #[.int .i64 a0_0, .int .i64 a0_1, .bool false, .int .i64 a0_3, .string a0_4] 41 (0, 0)) zF6_2) : gb217 ≠ gb232)); have n8_ := Aside0.mk ((by rw [hg]; exact Nat.ne_of_gt (blk_lt (g := gb217) (o := .cells #[.int .i64 a0_0, .int .i64 a0_1, .bool false, .int .i64 a0_3, .string a0_4] 41 (0, 0)) zF6_2) : gb232 ≠ gb217)); have n9_ := Aside0.mk ((zF6_15 : gb218 ≠ gb232)); have n10_ := Aside0.mk ((zF6_16 : gb232 ≠ gb218)); have n11_ := Aside0.mk ((by rw [hg]; exact Nat.ne_of_lt (blk_lt (g := gb219) (o := .cells #[.int .i64 0, .int .i64 0, .bool false, .int .i64 0, .string (⟨#[]⟩ : ByteArray)] 41 (0, 0)) zF6_5) : gb219 ≠ gb232)); have n12_ := Aside0.mk ((by rw [hg]; exact Nat.ne_of_gt (blk_lt (g := gb219) (o := .cells #[.int .i64 0, .int .i64 0, .bool false, .int .i64 0, .string (⟨#[]⟩ : ByteArray)] 41 (0, 0)) zF6_5) : gb232 ≠ gb219)); clear BK217; clear BK218; clear BK219; clear HB; have BK217 := n0_; have BK218 := n1_; have BK219 := n2_; have HB := n3_; have BK232 := n4_; have GW232 := n5_; have GE232 := n6_; have NB217_232 := n7_; have NB232_217 := n8_; have NB218_232 := n9_; have NB232_218 := n10_; have NB219_232 := n11_; have NB232_219 := n12_; clear n0_ n1_ n2_ n3_ n4_ n5_ n6_ n7_ n8_ n9_ n10_ n11_ n12_; clear hb hbox hg; have hnb61 := NB232_217.out; have hnc61 := NB217_232.out; have hnb62 := NB232_218.out; have hnc62 := NB218_232.out; have hnb63 := NB232_219.out; have hnc63 := NB219_232.out; have hcz64_0 : w60.cell? ⟨gb232, 0, none⟩ = some (.int .i64 0) := (blk_cell BK232.out 0).trans rfl; have hcz64_1 : w60.cell? ⟨gb232, 1, none⟩ = some (.int .i64 0) := (blk_cell BK232.out 1).trans rfl; have hcz64_2 : w60.cell? ⟨gb232, 2, none⟩ = some (.bool false) := (blk_cell BK232.out 2).trans rfl; have hcz64_3 : w60.cell? ⟨gb232, 3, none⟩ = some (.int .i64 0) := (blk_cell BK232.out 3).trans rfl; have hcz64_4 : w60.cell? ⟨gb232, 4, none⟩ = some (.string (⟨#[]⟩ : ByteArray)) := (blk_cell BK232.out 4).trans rfl; have hfz64_0 := blk_frozen BK232.out 0; have hfz64_1 := blk_frozen BK232.out 1; have hfz64_2 := blk_frozen BK232.out 2; have hfz64_3 := blk_frozen BK232.out 3; have hfz64_4 := blk_frozen BK232.out 4))
      (try simp only [Act.put, List.setIfInBounds_toArray, List.set_cons_zero, List.set_cons_succ])
      go_cut [64] (fun v64 wc => ∃ (kq : Nat) (x64_48 : Bool), v64 = .bool x64_48 ∧ Aside0 (colonnaderef02_Cast.j0 kq a0_0 x64_48 a0_0 a0_1 false a0_3 a0_4 a1_0 a1_1 a1_0 a1_1 false a0_3 (⟨#[]⟩ : ByteArray) = some (r1, r2, r3, r4, r5, r6)) ∧ Aside0 (kq ≤ k) ∧ Aside0 (wc.heap[gb217]? = some (.cells #[.int .i64 a0_0, .int .i64 a0_1, .bool false, .int .i64 a0_3, .string a0_4] 41 (0, 0))) ∧ Aside0 (wc.heap[gb218]? = some (.cells #[.int .i64 a1_0, .int .i64 a1_1] 34 (0, 0))) ∧ Aside0 (wc.heap[gb219]? = some (.cells #[.int .i64 0, .int .i64 0, .bool false, .int .i64 0, .string (⟨#[]⟩ : ByteArray)] 41 (0, 0))) ∧ Aside0 (wc.heap[gb232]? = some (.cells #[.int .i64 a1_0, .int .i64 a1_1, .bool false, .int .i64 a0_3, .string (⟨#[]⟩ : ByteArray)] 41 (0, 0))) ∧ Aside0 (Below w.heap.size w wc))
      case first =>
       have H := HC49.out
       clear HC49
       by_cases c65 : a0_0 = 3
       ·rw [if_pos c65] at H
        have c65b0 : (a0_0 == 3) = true := beq_iff_eq.mpr c65
        have c65b1 : (a0_0 != 3) = false := bne_eq_false_iff_eq.mpr c65
        clear c65
        (first | rw [c65b0] | (simp only [i64_w, i32_w]; rw [c65b0]) | skip)
        have H' := Aside0.mk H
        clear H
        go_wp2
        go_meet
        case rel => exact ⟨_, (true), zF6_11, H', ⟨by first | omega | exact Nat.le_refl _⟩, ⟨by (with_reducible repeat (first | refine blk_drewN ?_ _ | refine blk_drew ?_ | refine blk_alloc ?_ _)); refine blk_far ?_ NB217_232.out _; (with_reducible repeat (first | refine blk_drewN ?_ _ | refine blk_drew ?_ | refine blk_alloc ?_ _)); refine blk_far ?_ NB217_232.out _; (with_reducible repeat (first | refine blk_drewN ?_ _ | refine blk_drew ?_ | refine blk_alloc ?_ _)); refine blk_far ?_ NB217_232.out _; (with_reducible repeat (first | refine blk_drewN ?_ _ | refine blk_drew ?_ | refine blk_alloc ?_ _)); refine blk_far ?_ NB217_232.out _; (with_reducible repeat (first | refine blk_drewN ?_ _ | refine blk_drew ?_ | refine blk_alloc ?_ _)); refine blk_far ?_ NB217_232.out _; (with_reducible repeat (first | refine blk_drewN ?_ _ | refine blk_drew ?_ | refine blk_alloc ?_ _)); exact BK217.out⟩, ⟨by (with_reducible repeat (first | refine blk_drewN ?_ _ | refine blk_drew ?_ | refine blk_alloc ?_ _)); refine blk_far ?_ NB218_232.out _; (with_reducible repeat (first | refine blk_drewN ?_ _ | refine blk_drew ?_ | refine blk_alloc ?_ _)); refine blk_far ?_ NB218_232.out _; (with_reducible repeat (first | refine blk_drewN ?_ _ | refine blk_drew ?_ | refine blk_alloc ?_ _)); refine blk_far ?_ NB218_232.out _; (with_reducible repeat (first | refine blk_drewN ?_ _ | refine blk_drew ?_ | refine blk_alloc ?_ _)); refine blk_far ?_ NB218_232.out _; (with_reducible repeat (first | refine blk_drewN ?_ _ | refine blk_drew ?_ | refine blk_alloc ?_ _)); refine blk_far ?_ NB218_232.out _; (with_reducible repeat (first | refine blk_drewN ?_ _ | refine blk_drew ?_ | refine blk_alloc ?_ _)); exact BK218.out⟩, ⟨by (with_reducible repeat (first | refine blk_drewN ?_ _ | refine blk_drew ?_ | refine blk_alloc ?_ _)); refine blk_far ?_ NB219_232.out _; (with_reducible repeat (first | refine blk_drewN ?_ _ | refine blk_drew ?_ | refine blk_alloc ?_ _)); refine blk_far ?_ NB219_232.out _; (with_reducible repeat (first | refine blk_drewN ?_ _ | refine blk_drew ?_ | refine blk_alloc ?_ _)); refine blk_far ?_ NB219_232.out _; (with_reducible repeat (first | refine blk_drewN ?_ _ | refine blk_drew ?_ | refine blk_alloc ?_ _)); refine blk_far ?_ NB219_232.out _; (with_reducible repeat (first | refine blk_drewN ?_ _ | refine blk_drew ?_ | refine blk_alloc ?_ _)); refine blk_far ?_ NB219_232.out _; (with_reducible repeat (first | refine blk_drewN ?_ _ | refine blk_drew ?_ | refine blk_alloc ?_ _)); exact BK219.out⟩, ⟨by (with_reducible repeat (first | refine blk_drewN ?_ _ | refine blk_drew ?_ | refine blk_alloc ?_ _)); refine blk_put (cs := #[.int .i64 a1_0, .int .i64 a1_1, .bool false, .int .i64 a0_3, .string (⟨#[]⟩ : ByteArray)]) ?_ 4 _ rfl; (with_reducible repeat (first | refine blk_drewN ?_ _ | refine blk_drew ?_ | refine blk_alloc ?_ _)); refine blk_put (cs := #[.int .i64 a1_0, .int .i64 a1_1, .bool false, .int .i64 0, .string (⟨#[]⟩ : ByteArray)]) ?_ 3 _ rfl; (with_reducible repeat (first | refine blk_drewN ?_ _ | refine blk_drew ?_ | refine blk_alloc ?_ _)); refine blk_put (cs := #[.int .i64 a1_0, .int .i64 a1_1, .bool false, .int .i64 0, .string (⟨#[]⟩ : ByteArray)]) ?_ 2 _ rfl; (with_reducible repeat (first | refine blk_drewN ?_ _ | refine blk_drew ?_ | refine blk_alloc ?_ _)); refine blk_put (cs := #[.int .i64 a1_0, .int .i64 0, .bool false, .int .i64 0, .string (⟨#[]⟩ : ByteArray)]) ?_ 1 _ rfl; (with_reducible repeat (first | refine blk_drewN ?_ _ | refine blk_drew ?_ | refine blk_alloc ?_ _)); refine blk_put (cs := #[.int .i64 0, .int .i64 0, .bool false, .int .i64 0, .string (⟨#[]⟩ : ByteArray)]) ?_ 0 _ rfl; (with_reducible repeat (first | refine blk_drewN ?_ _ | refine blk_drew ?_ | refine blk_alloc ?_ _)); exact BK232.out⟩, ⟨by repeat (first | (with_reducible first | exact HB.out | apply below_alloc | apply pw_below_drewN | apply below_drew1 | refine below_set ?_ GE217.out | refine below_set ?_ GE218.out | refine below_set ?_ GE219.out | refine below_set ?_ GE232.out) | exact HB.out)⟩⟩
       ·rw [if_neg c65] at H
        have c65b0 : (a0_0 == 3) = false := beq_eq_false_iff_ne.mpr c65
        have c65b1 : (a0_0 != 3) = true := bne_iff_ne.mpr c65
        (first | rw [c65b0] | (simp only [i64_w, i32_w]; rw [c65b0]) | skip)
        have H' := Aside0.mk H
        clear H
        have hnb66 := NB218_217.out
        have hnc66 := NB217_218.out
        have hnb67 := NB218_219.out
        have hnc67 := NB219_218.out
        have hnb68 := NB218_232.out
        have hnc68 := NB232_218.out
        have hcz69_0 : w60.cell? ⟨gb218, 0, none⟩ = some (.int .i64 a1_0) := (blk_cell BK218.out 0).trans rfl
        have hcz69_1 : w60.cell? ⟨gb218, 1, none⟩ = some (.int .i64 a1_1) := (blk_cell BK218.out 1).trans rfl
        have hfz69_0 := blk_frozen BK218.out 0
        have hfz69_1 := blk_frozen BK218.out 1
        go_wp2
        go_meet
        case rel => exact ⟨_, ((a1_0 == 3)), zF6_11, H', ⟨by first | omega | exact Nat.le_refl _⟩, ⟨by (with_reducible repeat (first | refine blk_drewN ?_ _ | refine blk_drew ?_ | refine blk_alloc ?_ _)); refine blk_far ?_ NB217_232.out _; (with_reducible repeat (first | refine blk_drewN ?_ _ | refine blk_drew ?_ | refine blk_alloc ?_ _)); refine blk_far ?_ NB217_232.out _; (with_reducible repeat (first | refine blk_drewN ?_ _ | refine blk_drew ?_ | refine blk_alloc ?_ _)); refine blk_far ?_ NB217_232.out _; (with_reducible repeat (first | refine blk_drewN ?_ _ | refine blk_drew ?_ | refine blk_alloc ?_ _)); refine blk_far ?_ NB217_232.out _; (with_reducible repeat (first | refine blk_drewN ?_ _ | refine blk_drew ?_ | refine blk_alloc ?_ _)); refine blk_far ?_ NB217_232.out _; (with_reducible repeat (first | refine blk_drewN ?_ _ | refine blk_drew ?_ | refine blk_alloc ?_ _)); exact BK217.out⟩, ⟨by (with_reducible repeat (first | refine blk_drewN ?_ _ | refine blk_drew ?_ | refine blk_alloc ?_ _)); refine blk_far ?_ NB218_232.out _; (with_reducible repeat (first | refine blk_drewN ?_ _ | refine blk_drew ?_ | refine blk_alloc ?_ _)); refine blk_far ?_ NB218_232.out _; (with_reducible repeat (first | refine blk_drewN ?_ _ | refine blk_drew ?_ | refine blk_alloc ?_ _)); refine blk_far ?_ NB218_232.out _; (with_reducible repeat (first | refine blk_drewN ?_ _ | refine blk_drew ?_ | refine blk_alloc ?_ _)); refine blk_far ?_ NB218_232.out _; (with_reducible repeat (first | refine blk_drewN ?_ _ | refine blk_drew ?_ | refine blk_alloc ?_ _)); refine blk_far ?_ NB218_232.out _; (with_reducible repeat (first | refine blk_drewN ?_ _ | refine blk_drew ?_ | refine blk_alloc ?_ _)); exact BK218.out⟩, ⟨by (with_reducible repeat (first | refine blk_drewN ?_ _ | refine blk_drew ?_ | refine blk_alloc ?_ _)); refine blk_far ?_ NB219_232.out _; (with_reducible repeat (first | refine blk_drewN ?_ _ | refine blk_drew ?_ | refine blk_alloc ?_ _)); refine blk_far ?_ NB219_232.out _; (with_reducible repeat (first | refine blk_drewN ?_ _ | refine blk_drew ?_ | refine blk_alloc ?_ _)); refine blk_far ?_ NB219_232.out _; (with_reducible repeat (first | refine blk_drewN ?_ _ | refine blk_drew ?_ | refine blk_alloc ?_ _)); refine blk_far ?_ NB219_232.out _; (with_reducible repeat (first | refine blk_drewN ?_ _ | refine blk_drew ?_ | refine blk_alloc ?_ _)); refine blk_far ?_ NB219_232.out _; (with_reducible repeat (first | refine blk_drewN ?_ _ | refine blk_drew ?_ | refine blk_alloc ?_ _)); exact BK219.out⟩, ⟨by (with_reducible repeat (first | refine blk_drewN ?_ _ | refine blk_drew ?_ | refine blk_alloc ?_ _)); refine blk_put (cs := #[.int .i64 a1_0, .int .i64 a1_1, .bool false, .int .i64 a0_3, .string (⟨#[]⟩ : ByteArray)]) ?_ 4 _ rfl; (with_reducible repeat (first | refine blk_drewN ?_ _ | refine blk_drew ?_ | refine blk_alloc ?_ _)); refine blk_put (cs := #[.int .i64 a1_0, .int .i64 a1_1, .bool false, .int .i64 0, .string (⟨#[]⟩ : ByteArray)]) ?_ 3 _ rfl; (with_reducible repeat (first | refine blk_drewN ?_ _ | refine blk_drew ?_ | refine blk_alloc ?_ _)); refine blk_put (cs := #[.int .i64 a1_0, .int .i64 a1_1, .bool false, .int .i64 0, .string (⟨#[]⟩ : ByteArray)]) ?_ 2 _ rfl; (with_reducible repeat (first | refine blk_drewN ?_ _ | refine blk_drew ?_ | refine blk_alloc ?_ _)); refine blk_put (cs := #[.int .i64 a1_0, .int .i64 0, .bool false, .int .i64 0, .string (⟨#[]⟩ : ByteArray)]) ?_ 1 _ rfl; (with_reducible repeat (first | refine blk_drewN ?_ _ | refine blk_drew ?_ | refine blk_alloc ?_ _)); refine blk_put (cs := #[.int .i64 0, .int .i64 0, .bool false, .int .i64 0, .string (⟨#[]⟩ : ByteArray)]) ?_ 0 _ rfl; (with_reducible repeat (first | refine blk_drewN ?_ _ | refine blk_drew ?_ | refine blk_alloc ?_ _)); exact BK232.out⟩, ⟨by repeat (first | (with_reducible first | exact HB.out | apply below_alloc | apply pw_below_drewN | apply below_drew1 | refine below_set ?_ GE217.out | refine below_set ?_ GE218.out | refine below_set ?_ GE219.out | refine below_set ?_ GE232.out) | exact HB.out)⟩⟩
      case rest =>
       clear HC49
       (try clear c4); (try clear c4b0); (try clear c4b1); (try clear c6); (try clear c7); (try clear c21); (try clear c21b0); (try clear c21b1); (try clear c48); (try clear c48b0); (try clear c48b1); (try clear hcz14_0); (try clear hcz14_1); (try clear hcz14_0); (try clear hcz14_1); (try clear hcz58_0); (try clear hcz58_1); (try clear hcz58_2); (try clear hcz58_3); (try clear hcz58_4); (try clear hcz59_0); (try clear hcz59_1); (try clear hcz64_0); (try clear hcz64_1); (try clear hcz64_2); (try clear hcz64_3); (try clear hcz64_4); (try clear hfz14_0); (try clear hfz14_1); (try clear hfz14_0)
       (try clear hfz14_1); (try clear hfz58_0); (try clear hfz58_1); (try clear hfz58_2); (try clear hfz58_3); (try clear hfz58_4); (try clear hfz59_0); (try clear hfz59_1); (try clear hfz64_0); (try clear hfz64_1); (try clear hfz64_2); (try clear hfz64_3); (try clear hfz64_4)
       obtain ⟨kq, x64_48, rfl, HA, HJ48, BK217, BK218, BK219, BK232, HB⟩ := hcut
       cases kq with
       | zero => exact absurd HA.out (by simp [colonnaderef02_Cast.j0])
       | succ kj48 =>
        have H := HA.out
        clear HA
        simp only [colonnaderef02_Cast.j0] at H
        by_cases c70 : x64_48 = true
        ·subst c70
         have H1 : (if a0_0 = 3 then (if a0_1 < 0 then (colonnaderef02_Cast.j1 kj48 true a0_0 a0_1 false a0_3 a0_4 a1_0 a1_1 a1_0 a1_1 false a0_3 (⟨#[]⟩ : ByteArray)) else (colonnaderef02_Cast.j1 kj48 (decide (a0_1 > 18)) a0_0 a0_1 false a0_3 a0_4 a1_0 a1_1 a1_0 a1_1 false a0_3 (⟨#[]⟩ : ByteArray))) else (colonnaderef02_Cast.j1 kj48 false a0_0 a0_1 false a0_3 a0_4 a1_0 a1_1 a1_0 a1_1 false a0_3 (⟨#[]⟩ : ByteArray))) = some (r1, r2, r3, r4, r5, r6) := by rw [if_pos rfl] at H; exact H
         clear H
         have H := H1
         clear H1
         have HC71 := Aside0.mk H
         clear H
         go_upto_region 20 with (fail)
         go_cut [78] (fun v78 wc => ∃ (kq : Nat) (x78_70 : Bool), v78 = .bool x78_70 ∧ Aside0 (colonnaderef02_Cast.j1 kq x78_70 a0_0 a0_1 false a0_3 a0_4 a1_0 a1_1 a1_0 a1_1 false a0_3 (⟨#[]⟩ : ByteArray) = some (r1, r2, r3, r4, r5, r6)) ∧ Aside0 (kq ≤ kj48) ∧ Aside0 (wc.heap[gb217]? = some (.cells #[.int .i64 a0_0, .int .i64 a0_1, .bool false, .int .i64 a0_3, .string a0_4] 41 (0, 0))) ∧ Aside0 (wc.heap[gb218]? = some (.cells #[.int .i64 a1_0, .int .i64 a1_1] 34 (0, 0))) ∧ Aside0 (wc.heap[gb219]? = some (.cells #[.int .i64 0, .int .i64 0, .bool false, .int .i64 0, .string (⟨#[]⟩ : ByteArray)] 41 (0, 0))) ∧ Aside0 (wc.heap[gb232]? = some (.cells #[.int .i64 a1_0, .int .i64 a1_1, .bool false, .int .i64 a0_3, .string (⟨#[]⟩ : ByteArray)] 41 (0, 0))) ∧ Aside0 (Below w.heap.size w wc))
         case first =>
          have H := HC71.out
          clear HC71
          by_cases c72 : a0_0 = 3
          ·rw [if_pos c72] at H
           have c72b0 : (a0_0 == 3) = true := beq_iff_eq.mpr c72
           have c72b1 : (a0_0 != 3) = false := bne_eq_false_iff_eq.mpr c72
           clear c72
           (first | rw [c72b0] | (simp only [i64_w, i32_w]; rw [c72b0]) | skip)
           by_cases c73 : a0_1 < 0
           ·rw [if_pos c73] at H
            have c73b0 : decide (a0_1 < 0) = true := decide_eq_true c73
            clear c73
            have H' := Aside0.mk H
            clear H
            have hnb74 := NB217_218.out
            have hnc74 := NB218_217.out
            have hnb75 := NB217_219.out
            have hnc75 := NB219_217.out
            have hnb76 := NB217_232.out
            have hnc76 := NB232_217.out
            have hcz77_0 : wc.cell? ⟨gb217, 0, none⟩ = some (.int .i64 a0_0) := (blk_cell BK217.out 0).trans rfl
            have hcz77_1 : wc.cell? ⟨gb217, 1, none⟩ = some (.int .i64 a0_1) := (blk_cell BK217.out 1).trans rfl
            have hcz77_2 : wc.cell? ⟨gb217, 2, none⟩ = some (.bool false) := (blk_cell BK217.out 2).trans rfl
            have hcz77_3 : wc.cell? ⟨gb217, 3, none⟩ = some (.int .i64 a0_3) := (blk_cell BK217.out 3).trans rfl
            have hcz77_4 : wc.cell? ⟨gb217, 4, none⟩ = some (.string a0_4) := (blk_cell BK217.out 4).trans rfl
            have hfz77_0 := blk_frozen BK217.out 0
            have hfz77_1 := blk_frozen BK217.out 1
            have hfz77_2 := blk_frozen BK217.out 2
            have hfz77_3 := blk_frozen BK217.out 3
            have hfz77_4 := blk_frozen BK217.out 4
            go_wp2
            go_meet
            case rel => exact ⟨_, (true), zF6_11, H', ⟨by have := HJ48.out; first | omega | exact Nat.le_refl _⟩, ⟨by (with_reducible repeat (first | refine blk_drewN ?_ _ | refine blk_drew ?_ | refine blk_alloc ?_ _)); exact BK217.out⟩, ⟨by (with_reducible repeat (first | refine blk_drewN ?_ _ | refine blk_drew ?_ | refine blk_alloc ?_ _)); exact BK218.out⟩, ⟨by (with_reducible repeat (first | refine blk_drewN ?_ _ | refine blk_drew ?_ | refine blk_alloc ?_ _)); exact BK219.out⟩, ⟨by (with_reducible repeat (first | refine blk_drewN ?_ _ | refine blk_drew ?_ | refine blk_alloc ?_ _)); exact BK232.out⟩, ⟨by repeat (first | (with_reducible first | exact HB.out | apply below_alloc | apply pw_below_drewN | apply below_drew1 | refine below_set ?_ GE217.out | refine below_set ?_ GE218.out | refine below_set ?_ GE219.out | refine below_set ?_ GE232.out) | exact HB.out)⟩⟩
           ·rw [if_neg c73] at H
            have c73b0 : decide (a0_1 < 0) = false := decide_eq_false c73
            clear c73
            have H' := Aside0.mk H
            clear H
            have hnb78 := NB217_218.out
            have hnc78 := NB218_217.out
            have hnb79 := NB217_219.out
            have hnc79 := NB219_217.out
            have hnb80 := NB217_232.out
            have hnc80 := NB232_217.out
            have hcz81_0 : wc.cell? ⟨gb217, 0, none⟩ = some (.int .i64 a0_0) := (blk_cell BK217.out 0).trans rfl
            have hcz81_1 : wc.cell? ⟨gb217, 1, none⟩ = some (.int .i64 a0_1) := (blk_cell BK217.out 1).trans rfl
            have hcz81_2 : wc.cell? ⟨gb217, 2, none⟩ = some (.bool false) := (blk_cell BK217.out 2).trans rfl
            have hcz81_3 : wc.cell? ⟨gb217, 3, none⟩ = some (.int .i64 a0_3) := (blk_cell BK217.out 3).trans rfl
            have hcz81_4 : wc.cell? ⟨gb217, 4, none⟩ = some (.string a0_4) := (blk_cell BK217.out 4).trans rfl
            have hfz81_0 := blk_frozen BK217.out 0
            have hfz81_1 := blk_frozen BK217.out 1
            have hfz81_2 := blk_frozen BK217.out 2
            have hfz81_3 := blk_frozen BK217.out 3
            have hfz81_4 := blk_frozen BK217.out 4
            go_wp2
            go_meet
            case rel => exact ⟨_, (decide (a0_1 > 18)), zF6_11, H', ⟨by have := HJ48.out; first | omega | exact Nat.le_refl _⟩, ⟨by (with_reducible repeat (first | refine blk_drewN ?_ _ | refine blk_drew ?_ | refine blk_alloc ?_ _)); exact BK217.out⟩, ⟨by (with_reducible repeat (first | refine blk_drewN ?_ _ | refine blk_drew ?_ | refine blk_alloc ?_ _)); exact BK218.out⟩, ⟨by (with_reducible repeat (first | refine blk_drewN ?_ _ | refine blk_drew ?_ | refine blk_alloc ?_ _)); exact BK219.out⟩, ⟨by (with_reducible repeat (first | refine blk_drewN ?_ _ | refine blk_drew ?_ | refine blk_alloc ?_ _)); exact BK232.out⟩, ⟨by repeat (first | (with_reducible first | exact HB.out | apply below_alloc | apply pw_below_drewN | apply below_drew1 | refine below_set ?_ GE217.out | refine below_set ?_ GE218.out | refine below_set ?_ GE219.out | refine below_set ?_ GE232.out) | exact HB.out)⟩⟩
          ·rw [if_neg c72] at H
           have c72b0 : (a0_0 == 3) = false := beq_eq_false_iff_ne.mpr c72
           have c72b1 : (a0_0 != 3) = true := bne_iff_ne.mpr c72
           (first | rw [c72b0] | (simp only [i64_w, i32_w]; rw [c72b0]) | skip)
           have H' := Aside0.mk H
           clear H
           go_wp2
           go_meet
           case rel => exact ⟨_, (false), zF6_11, H', ⟨by have := HJ48.out; first | omega | exact Nat.le_refl _⟩, ⟨by (with_reducible repeat (first | refine blk_drewN ?_ _ | refine blk_drew ?_ | refine blk_alloc ?_ _)); exact BK217.out⟩, ⟨by (with_reducible repeat (first | refine blk_drewN ?_ _ | refine blk_drew ?_ | refine blk_alloc ?_ _)); exact BK218.out⟩, ⟨by (with_reducible repeat (first | refine blk_drewN ?_ _ | refine blk_drew ?_ | refine blk_alloc ?_ _)); exact BK219.out⟩, ⟨by (with_reducible repeat (first | refine blk_drewN ?_ _ | refine blk_drew ?_ | refine blk_alloc ?_ _)); exact BK232.out⟩, ⟨by repeat (first | (with_reducible first | exact HB.out | apply below_alloc | apply pw_below_drewN | apply below_drew1 | refine below_set ?_ GE217.out | refine below_set ?_ GE218.out | refine below_set ?_ GE219.out | refine below_set ?_ GE232.out) | exact HB.out)⟩⟩
         case rest =>
          clear HC71
          (try clear c4); (try clear c4b0); (try clear c4b1); (try clear c6); (try clear c7); (try clear c21); (try clear c21b0); (try clear c21b1); (try clear c48); (try clear c48b0); (try clear c48b1); (try clear c70); (try clear hcz14_0); (try clear hcz14_1); (try clear hcz14_0); (try clear hcz14_1); (try clear hcz58_0); (try clear hcz58_1); (try clear hcz58_2); (try clear hcz58_3); (try clear hcz58_4); (try clear hcz59_0); (try clear hcz59_1); (try clear hcz64_0); (try clear hcz64_1); (try clear hcz64_2); (try clear hcz64_3); (try clear hcz64_4); (try clear hfz14_0); (try clear hfz14_1)
          (try clear hfz14_0); (try clear hfz14_1); (try clear hfz58_0); (try clear hfz58_1); (try clear hfz58_2); (try clear hfz58_3); (try clear hfz58_4); (try clear hfz59_0); (try clear hfz59_1); (try clear hfz64_0); (try clear hfz64_1); (try clear hfz64_2); (try clear hfz64_3); (try clear hfz64_4)
          obtain ⟨kq, x78_70, rfl, HA, HJ70, BK217, BK218, BK219, BK232, HB⟩ := hcut
          cases kq with
          | zero => exact absurd HA.out (by simp [colonnaderef02_Cast.j1])
          | succ kj70 =>
           have H := HA.out
           clear HA
           simp only [colonnaderef02_Cast.j1] at H
           by_cases c82 : x78_70 = true
           ·subst c82
            have H1 : (some (0, 0, false, 0, (⟨#[]⟩ : ByteArray), 10)) = some (r1, r2, r3, r4, r5, r6) := by rw [if_pos rfl] at H; exact H
            clear H
            have H := H1
            clear H1
            simp only [Option.some.injEq, Prod.mk.injEq] at H
            obtain ⟨rfl, rfl, rfl, rfl, rfl, rfl⟩ := H
            have hnb83 := NB219_217.out
            have hnc83 := NB217_219.out
            have hnb84 := NB219_218.out
            have hnc84 := NB218_219.out
            have hnb85 := NB219_232.out
            have hnc85 := NB232_219.out
            have hcz86_0 : wc.cell? ⟨gb219, 0, none⟩ = some (.int .i64 0) := (blk_cell BK219.out 0).trans rfl
            have hcz86_1 : wc.cell? ⟨gb219, 1, none⟩ = some (.int .i64 0) := (blk_cell BK219.out 1).trans rfl
            have hcz86_2 : wc.cell? ⟨gb219, 2, none⟩ = some (.bool false) := (blk_cell BK219.out 2).trans rfl
            have hcz86_3 : wc.cell? ⟨gb219, 3, none⟩ = some (.int .i64 0) := (blk_cell BK219.out 3).trans rfl
            have hcz86_4 : wc.cell? ⟨gb219, 4, none⟩ = some (.string (⟨#[]⟩ : ByteArray)) := (blk_cell BK219.out 4).trans rfl
            have hfz86_0 := blk_frozen BK219.out 0
            have hfz86_1 := blk_frozen BK219.out 1
            have hfz86_2 := blk_frozen BK219.out 2
            have hfz86_3 := blk_frozen BK219.out 3
            have hfz86_4 := blk_frozen BK219.out 4
            go_wp2
            refine bodyPost_ret (results_ct rfl _ _ gb219 41 #[.int .i64 0, .int .i64 0, .bool false, .int .i64 0, .string (⟨#[]⟩ : ByteArray)] (0, 0) _ rfl zF6_0 Tryz.underlying41 rfl zF6_6) rfl ?_
            exact ⟨by first | rfl | (simp [errW_none, errW_some] <;> rfl) | (simp [*, errW_none, errW_some] <;> rfl), by repeat (first | (with_reducible first | exact HB.out | apply below_alloc | apply pw_below_drewN | apply below_drew1 | refine below_set ?_ GE217.out | refine below_set ?_ GE218.out | refine below_set ?_ GE219.out | refine below_set ?_ GE232.out) | exact HB.out)⟩
           ·replace c82 := Bool.eq_false_iff.mpr c82
            subst c82
            have H1 : ((colonnaderef02_scale.f a0_0 a0_1 false a0_3 a0_4).bind fun t233 => ((colonnaderef01_Scale.f kj70 a0_3 t233 a1_1).bind fun bt234 => (if bt234.2 = 0 then (some (a1_0, a1_1, false, bt234.1, (⟨#[]⟩ : ByteArray), 0)) else (some (0, 0, false, 0, (⟨#[]⟩ : ByteArray), bt234.2))))) = some (r1, r2, r3, r4, r5, r6) := by rw [if_neg (show ¬ (false = true) by decide)] at H; exact H
            clear H
            have H := H1
            clear H1
            replace H := Option.bind_eq_some_iff.mp H
            obtain ⟨t233, A870, H⟩ := H
            replace H : ((colonnaderef01_Scale.f kj70 a0_3 t233 a1_1).bind fun bt234 => (if bt234.2 = 0 then (some (a1_0, a1_1, false, bt234.1, (⟨#[]⟩ : ByteArray), 0)) else (some (0, 0, false, 0, (⟨#[]⟩ : ByteArray), bt234.2)))) = some (r1, r2, r3, r4, r5, r6) := H
            have A87 := Aside0.mk A870
            clear A870
            replace H := Option.bind_eq_some_iff.mp H
            obtain ⟨⟨t234, t235⟩, A880, H⟩ := H
            replace H : (if t235 = 0 then (some (a1_0, a1_1, false, t234, (⟨#[]⟩ : ByteArray), 0)) else (some (0, 0, false, 0, (⟨#[]⟩ : ByteArray), t235))) = some (r1, r2, r3, r4, r5, r6) := H
            have A88 := Aside0.mk A880
            clear A880
            by_cases c89 : t235 = 0
            ·rw [if_pos c89] at H
             have c89b0 : (t235 == 0) = true := beq_iff_eq.mpr c89
             have c89b1 : (t235 != 0) = false := bne_eq_false_iff_eq.mpr c89
             clear c89
             simp only [Option.some.injEq, Prod.mk.injEq] at H
             obtain ⟨rfl, rfl, rfl, rfl, rfl, rfl⟩ := H
             try go_wp2
             have n0_ := Aside0.mk (blk_drew BK217.out)
             have n1_ := Aside0.mk (blk_drew BK218.out)
             have n2_ := Aside0.mk (blk_drew BK219.out)
             have n3_ := Aside0.mk (blk_drew BK232.out)
             have n4_ := Aside0.mk (below_drew1 HB.out)
             clear BK217
             clear BK218
             clear BK219
             clear BK232
             clear HB
             have BK217 := n0_
             have BK218 := n1_
             have BK219 := n2_
             have BK232 := n3_
             have HB := n4_
             clear n0_ n1_ n2_ n3_ n4_
             refine start_ (n := 12) (S := fun w' => w'.cell? ⟨gb217, 0, none⟩ = some (.int .i64 a0_0) ∧ w'.cell? ⟨gb217, 1, none⟩ = some (.int .i64 a0_1) ∧ w'.cell? ⟨gb217, 2, none⟩ = some (.bool false) ∧ w'.cell? ⟨gb217, 3, none⟩ = some (.int .i64 a0_3) ∧ w'.cell? ⟨gb217, 4, none⟩ = some (.string a0_4) ∧ w'.cell? ⟨gb218, 0, none⟩ = some (.int .i64 a1_0) ∧ w'.cell? ⟨gb218, 1, none⟩ = some (.int .i64 a1_1)) (ds := []) #[false, false, false, false, false, false, false, false, false, false, false, false] zF6_6 rfl rfl ⟨(blk_cell BK217.out 0).trans rfl, (blk_cell BK217.out 1).trans rfl, (blk_cell BK217.out 2).trans rfl, (blk_cell BK217.out 3).trans rfl, (blk_cell BK217.out 4).trans rfl, (blk_cell BK218.out 0).trans rfl, (blk_cell BK218.out 1).trans rfl⟩ (fun hHeld => ?_); refine with_tabW colonnaderef02_Cast.tab22 colonnaderef02_Cast.bits22 (fun HT_ HW_ => ?_)
             generalize wc.drew = w90 at BK217 BK218 BK219 BK232 HB hHeld ⊢
             refine pure_ (i := 0) (N := some 81) (v := ?_) (a' := ?_) #[true, false, false, false, false, false, false, false, false, false, false, false] rfl rfl (any_of HT_.out zF6_6) (fun _ _ _ h => h) (Or.inl ⟨by rfl, ?_⟩) ?_ ?_
             rotate_left
             ·intro w'
              go_simp
              with_reducible rfl
             rotate_left
             ·simp only [Act.put, List.setIfInBounds_toArray, List.set_cons_zero, List.set_cons_succ, i64_w, i32_w]
              rfl
             refine pure_ (i := 4) (N := some 85) (v := ?_) (a' := ?_) #[true, false, false, false, true, false, false, false, false, false, false, false] rfl rfl (any_of HT_.out zF6_6) (fun _ _ _ h => h) (Or.inl ⟨by rfl, ?_⟩) ?_ ?_
             rotate_left
             ·intro w'
              go_simp
              with_reducible rfl
             rotate_left
             ·simp only [Act.put, List.setIfInBounds_toArray, List.set_cons_zero, List.set_cons_succ, i64_w, i32_w]
              rfl
             refine take_ (i := 1) (N := some 82) (v := ?_) (a' := ?_) #[true, true, false, false, true, false, false, false, false, false, false, false] rfl rfl (take_ofW HT_.out HW_.out zF6_6) (fun _ _ _ h => h) (Or.inl ⟨by rfl, ?_⟩) hHeld ?_ ?_
             rotate_left
             ·rintro w' ⟨s0, s1, s2, s3, s4, s5, s6⟩
              go_simp
              with_reducible rfl
             rotate_left
             ·simp only [Act.put, List.setIfInBounds_toArray, List.set_cons_zero, List.set_cons_succ, i64_w, i32_w]
              rfl
             refine take_ (i := 2) (N := some 83) (v := ?_) (a' := ?_) #[true, true, true, false, true, false, false, false, false, false, false, false] rfl rfl (take_ofW HT_.out HW_.out zF6_6) (fun _ _ _ h => h) (Or.inl ⟨by rfl, ?_⟩) hHeld ?_ ?_
             rotate_left
             ·rintro w' ⟨s0, s1, s2, s3, s4, s5, s6⟩
              go_simp
              with_reducible rfl
             rotate_left
             ·simp only [Act.put, List.setIfInBounds_toArray, List.set_cons_zero, List.set_cons_succ, i64_w, i32_w]
              rfl
             refine take_ (i := 5) (N := some 86) (v := ?_) (a' := ?_) #[true, true, true, false, true, true, false, false, false, false, false, false] rfl rfl (take_ofW HT_.out HW_.out zF6_6) (fun _ _ _ h => h) (Or.inl ⟨by rfl, ?_⟩) hHeld ?_ ?_
             rotate_left
             ·rintro w' ⟨s0, s1, s2, s3, s4, s5, s6⟩
              go_simp
              with_reducible rfl
             rotate_left
             ·simp only [Act.put, List.setIfInBounds_toArray, List.set_cons_zero, List.set_cons_succ, i64_w, i32_w]
              rfl
             refine one_ (i := 3) (N := some 84) #[true, true, true, true, true, true, false, false, false, false, false, false] rfl rfl (one_of HT_.out zF6_6) (by decide) (fun K hK => ?_)
             refine goes_ Tryz.func92 zF6_6 rfl #[.agg #[.int .i64 a0_0, .int .i64 a0_1, .bool false, .int .i64 a0_3, .string a0_4]] (by rfl) rfl rfl zF6_4 ?_
             with_reducible refine (colonnaderef02_scale.calls a0_0 a0_1 false a0_3 a0_4 t233 _ A87.out).mono ?_
             rintro e w91 ⟨rfl, hb⟩
             refine ⟨_, rfl, ?_⟩
             have n0_ := Aside0.mk (blk_below (g := gb217) (o := .cells #[.int .i64 a0_0, .int .i64 a0_1, .bool false, .int .i64 a0_3, .string a0_4] 41 (0, 0)) zF6_2 hb)
             have n1_ := Aside0.mk (blk_below (g := gb218) (o := .cells #[.int .i64 a1_0, .int .i64 a1_1] 34 (0, 0)) zF6_3 hb)
             have n2_ := Aside0.mk (blk_below (g := gb219) (o := .cells #[.int .i64 0, .int .i64 0, .bool false, .int .i64 0, .string (⟨#[]⟩ : ByteArray)] 41 (0, 0)) zF6_5 hb)
             have n3_ := Aside0.mk (blk_below (g := gb232) (o := .cells #[.int .i64 a1_0, .int .i64 a1_1, .bool false, .int .i64 a0_3, .string (⟨#[]⟩ : ByteArray)] 41 (0, 0)) zF6_12 hb)
             have n4_ := Aside0.mk (below_step zF6_8 hb)
             clear BK217
             clear BK218
             clear BK219
             clear BK232
             clear HB
             have BK217 := n0_
             have BK218 := n1_
             have BK219 := n2_
             have BK232 := n3_
             have HB := n4_
             clear n0_ n1_ n2_ n3_ n4_
             (try clear hb)
             (try clear hb2)
             (try clear hk)
             (try clear hi)
             refine hK.out _ _ ⟨(blk_cell BK217.out 0).trans rfl, (blk_cell BK217.out 1).trans rfl, (blk_cell BK217.out 2).trans rfl, (blk_cell BK217.out 3).trans rfl, (blk_cell BK217.out 4).trans rfl, (blk_cell BK218.out 0).trans rfl, (blk_cell BK218.out 1).trans rfl⟩ (fun hHeld => ?_)
             clear hK K
             refine norm_ (a' := ?_) ?_ ?_
             rotate_left
             ·show Act.put _ (some 84) _ = _
              simp only [Act.put, List.setIfInBounds_toArray, List.set_cons_zero, List.set_cons_succ, i64_w, i32_w]
              rfl
             refine one_ (i := 6) (N := some 87) #[true, true, true, true, true, true, true, false, false, false, false, false] rfl rfl (one_of HT_.out zF6_6) (by decide) (fun K hK => ?_)
             refine goes_ Tryz.func91 zF6_6 rfl #[.int .i64 a0_3, .int .i64 t233, .int .i64 a1_1] (by rfl) rfl rfl zF6_4 ?_
             with_reducible refine (colonnaderef01_Scale.calls kj70 a0_3 t233 a1_1 t234 t235 _ A88.out).mono ?_
             rintro e w' ⟨rfl, ⟨nd, rfl⟩⟩
             refine ⟨_, rfl, ?_⟩
             refine hK.out _ _ ⟨(blk_cell BK217.out 0).trans rfl, (blk_cell BK217.out 1).trans rfl, (blk_cell BK217.out 2).trans rfl, (blk_cell BK217.out 3).trans rfl, (blk_cell BK217.out 4).trans rfl, (blk_cell BK218.out 0).trans rfl, (blk_cell BK218.out 1).trans rfl⟩ (fun hHeld => ?_)
             clear hK K
             refine norm_ (a' := ?_) ?_ ?_
             rotate_left
             ·show Act.put _ (some 87) _ = _
              simp only [Act.put, List.setIfInBounds_toArray, List.set_cons_zero, List.set_cons_succ, i64_w, i32_w]
              rfl
             refine pure_ (i := 7) (N := some 80) (v := ?_) (a' := ?_) #[true, true, true, true, true, true, true, true, false, false, false, false] rfl rfl (any_of HT_.out zF6_6) (fun _ _ _ h => h) (Or.inl ⟨by rfl, ?_⟩) ?_ ?_
             rotate_left
             ·intro w'
              go_simp
              with_reducible rfl
             rotate_left
             ·simp only [Act.put, List.setIfInBounds_toArray, List.set_cons_zero, List.set_cons_succ, i64_w, i32_w]
              rfl
             refine pure_ (i := 8) (N := some 88) (v := ?_) (a' := ?_) #[true, true, true, true, true, true, true, true, true, false, false, false] rfl rfl (any_of HT_.out zF6_6) (fun _ _ _ h => h) (Or.inl ⟨by rfl, ?_⟩) ?_ ?_
             rotate_left
             ·intro w'
              go_simp
              with_reducible rfl
             rotate_left
             ·simp only [Act.put, List.setIfInBounds_toArray, List.set_cons_zero, List.set_cons_succ, i64_w, i32_w]
              rfl
             refine pure_ (i := 9) (N := some 89) (v := ?_) (a' := ?_) #[true, true, true, true, true, true, true, true, true, true, false, false] rfl rfl (any_of HT_.out zF6_6) (fun _ _ _ h => h) (Or.inl ⟨by rfl, ?_⟩) ?_ ?_
             rotate_left
             ·intro w'
              go_simp
              with_reducible rfl
             rotate_left
             ·simp only [Act.put, List.setIfInBounds_toArray, List.set_cons_zero, List.set_cons_succ, i64_w, i32_w]
              rfl
             refine pure_ (i := 10) (N := some 10) (v := ?_) (a' := ?_) #[true, true, true, true, true, true, true, true, true, true, true, false] rfl rfl (any_of HT_.out zF6_6) (fun _ _ _ h => h) (Or.inl ⟨by rfl, ?_⟩) ?_ ?_
             rotate_left
             ·intro w'
              go_simp
              with_reducible rfl
             rotate_left
             ·simp only [Act.put, List.setIfInBounds_toArray, List.set_cons_zero, List.set_cons_succ, i64_w, i32_w]
              rfl
             refine pure_ (i := 11) (N := some 11) (v := ?_) (a' := ?_) #[true, true, true, true, true, true, true, true, true, true, true, true] rfl rfl (any_of HT_.out zF6_6) (fun _ _ _ h => h) (Or.inl ⟨by rfl, ?_⟩) ?_ ?_
             rotate_left
             ·intro w'
              go_simp
              with_reducible rfl
             rotate_left
             ·simp only [Act.put, List.setIfInBounds_toArray, List.set_cons_zero, List.set_cons_succ, i64_w, i32_w]
              rfl
             refine done_ (done_of HT_.out zF6_6) ?_
             have hnb92 := NB232_217.out
             have hnc92 := NB217_232.out
             have hnb93 := NB232_218.out
             have hnc93 := NB218_232.out
             have hnb94 := NB232_219.out
             have hnc94 := NB219_232.out
             have hcz95_0 : w91.cell? ⟨gb232, 0, none⟩ = some (.int .i64 a1_0) := (blk_cell BK232.out 0).trans rfl
             have hcz95_1 : w91.cell? ⟨gb232, 1, none⟩ = some (.int .i64 a1_1) := (blk_cell BK232.out 1).trans rfl
             have hcz95_2 : w91.cell? ⟨gb232, 2, none⟩ = some (.bool false) := (blk_cell BK232.out 2).trans rfl
             have hcz95_3 : w91.cell? ⟨gb232, 3, none⟩ = some (.int .i64 a0_3) := (blk_cell BK232.out 3).trans rfl
             have hcz95_4 : w91.cell? ⟨gb232, 4, none⟩ = some (.string (⟨#[]⟩ : ByteArray)) := (blk_cell BK232.out 4).trans rfl
             have hfz95_0 := blk_frozen BK232.out 0
             have hfz95_1 := blk_frozen BK232.out 1
             have hfz95_2 := blk_frozen BK232.out 2
             have hfz95_3 := blk_frozen BK232.out 3
             have hfz95_4 := blk_frozen BK232.out 4
             have hnb96 := NB219_217.out
             have hnc96 := NB217_219.out
             have hnb97 := NB219_218.out
             have hnc97 := NB218_219.out
             have hcz98_0 : w91.cell? ⟨gb219, 0, none⟩ = some (.int .i64 0) := (blk_cell BK219.out 0).trans rfl
             have hcz98_1 : w91.cell? ⟨gb219, 1, none⟩ = some (.int .i64 0) := (blk_cell BK219.out 1).trans rfl
             have hcz98_2 : w91.cell? ⟨gb219, 2, none⟩ = some (.bool false) := (blk_cell BK219.out 2).trans rfl
             have hcz98_3 : w91.cell? ⟨gb219, 3, none⟩ = some (.int .i64 0) := (blk_cell BK219.out 3).trans rfl
             have hcz98_4 : w91.cell? ⟨gb219, 4, none⟩ = some (.string (⟨#[]⟩ : ByteArray)) := (blk_cell BK219.out 4).trans rfl
             have hfz98_0 := blk_frozen BK219.out 0
             have hfz98_1 := blk_frozen BK219.out 1
             have hfz98_2 := blk_frozen BK219.out 2
             have hfz98_3 := blk_frozen BK219.out 3
             have hfz98_4 := blk_frozen BK219.out 4
             try go_wp2
             refine bodyPost_ret (results_ct rfl _ _ gb219 41 #[.int .i64 a1_0, .int .i64 a1_1, .bool false, .int .i64 t234, .string (⟨#[]⟩ : ByteArray)] (0, 0) _ rfl (by (with_reducible repeat (first | refine blk_drewN ?_ _ | refine blk_drew ?_ | refine blk_alloc ?_ _)); refine blk_put (cs := #[.int .i64 a1_0, .int .i64 a1_1, .bool false, .int .i64 t234, .string (⟨#[]⟩ : ByteArray)]) ?_ 4 _ rfl; (with_reducible repeat (first | refine blk_drewN ?_ _ | refine blk_drew ?_ | refine blk_alloc ?_ _)); refine blk_put (cs := #[.int .i64 a1_0, .int .i64 a1_1, .bool false, .int .i64 0, .string (⟨#[]⟩ : ByteArray)]) ?_ 3 _ rfl; (with_reducible repeat (first | refine blk_drewN ?_ _ | refine blk_drew ?_ | refine blk_alloc ?_ _)); refine blk_put (cs := #[.int .i64 a1_0, .int .i64 a1_1, .bool false, .int .i64 0, .string (⟨#[]⟩ : ByteArray)]) ?_ 2 _ rfl; (with_reducible repeat (first | refine blk_drewN ?_ _ | refine blk_drew ?_ | refine blk_alloc ?_ _)); refine blk_put (cs := #[.int .i64 a1_0, .int .i64 0, .bool false, .int .i64 0, .string (⟨#[]⟩ : ByteArray)]) ?_ 1 _ rfl; (with_reducible repeat (first | refine blk_drewN ?_ _ | refine blk_drew ?_ | refine blk_alloc ?_ _)); refine blk_put (cs := #[.int .i64 0, .int .i64 0, .bool false, .int .i64 0, .string (⟨#[]⟩ : ByteArray)]) ?_ 0 _ rfl; (with_reducible repeat (first | refine blk_drewN ?_ _ | refine blk_drew ?_ | refine blk_alloc ?_ _)); refine blk_far ?_ NB219_232.out _; (with_reducible repeat (first | refine blk_drewN ?_ _ | refine blk_drew ?_ | refine blk_alloc ?_ _)); exact BK219.out) Tryz.underlying41 rfl zF6_6) rfl ?_
             exact ⟨by first | rfl | (simp [errW_none, errW_some] <;> rfl) | (simp [*, errW_none, errW_some] <;> rfl), by repeat (first | (with_reducible first | exact HB.out | apply below_alloc | apply pw_below_drewN | apply below_drew1 | refine below_set ?_ GE217.out | refine below_set ?_ GE218.out | refine below_set ?_ GE219.out | refine below_set ?_ GE232.out) | exact HB.out)⟩
            ·rw [if_neg c89] at H
             have c89b0 : (t235 == 0) = false := beq_eq_false_iff_ne.mpr c89
             have c89b1 : (t235 != 0) = true := bne_iff_ne.mpr c89
             simp only [Option.some.injEq, Prod.mk.injEq] at H
             obtain ⟨rfl, rfl, rfl, rfl, rfl, rfl⟩ := H
             try go_wp2
             have n0_ := Aside0.mk (blk_drew BK217.out)
             have n1_ := Aside0.mk (blk_drew BK218.out)
             have n2_ := Aside0.mk (blk_drew BK219.out)
             have n3_ := Aside0.mk (blk_drew BK232.out)
             have n4_ := Aside0.mk (below_drew1 HB.out)
             clear BK217
             clear BK218
             clear BK219
             clear BK232
             clear HB
             have BK217 := n0_
             have BK218 := n1_
             have BK219 := n2_
             have BK232 := n3_
             have HB := n4_
             clear n0_ n1_ n2_ n3_ n4_
             refine start_ (n := 12) (S := fun w' => w'.cell? ⟨gb217, 0, none⟩ = some (.int .i64 a0_0) ∧ w'.cell? ⟨gb217, 1, none⟩ = some (.int .i64 a0_1) ∧ w'.cell? ⟨gb217, 2, none⟩ = some (.bool false) ∧ w'.cell? ⟨gb217, 3, none⟩ = some (.int .i64 a0_3) ∧ w'.cell? ⟨gb217, 4, none⟩ = some (.string a0_4) ∧ w'.cell? ⟨gb218, 0, none⟩ = some (.int .i64 a1_0) ∧ w'.cell? ⟨gb218, 1, none⟩ = some (.int .i64 a1_1)) (ds := []) #[false, false, false, false, false, false, false, false, false, false, false, false] zF6_6 rfl rfl ⟨(blk_cell BK217.out 0).trans rfl, (blk_cell BK217.out 1).trans rfl, (blk_cell BK217.out 2).trans rfl, (blk_cell BK217.out 3).trans rfl, (blk_cell BK217.out 4).trans rfl, (blk_cell BK218.out 0).trans rfl, (blk_cell BK218.out 1).trans rfl⟩ (fun hHeld => ?_); refine with_tabW colonnaderef02_Cast.tab22 colonnaderef02_Cast.bits22 (fun HT_ HW_ => ?_)
             generalize wc.drew = w99 at BK217 BK218 BK219 BK232 HB hHeld ⊢
             refine pure_ (i := 0) (N := some 81) (v := ?_) (a' := ?_) #[true, false, false, false, false, false, false, false, false, false, false, false] rfl rfl (any_of HT_.out zF6_6) (fun _ _ _ h => h) (Or.inl ⟨by rfl, ?_⟩) ?_ ?_
             rotate_left
             ·intro w'
              go_simp
              with_reducible rfl
             rotate_left
             ·simp only [Act.put, List.setIfInBounds_toArray, List.set_cons_zero, List.set_cons_succ, i64_w, i32_w]
              rfl
             refine pure_ (i := 4) (N := some 85) (v := ?_) (a' := ?_) #[true, false, false, false, true, false, false, false, false, false, false, false] rfl rfl (any_of HT_.out zF6_6) (fun _ _ _ h => h) (Or.inl ⟨by rfl, ?_⟩) ?_ ?_
             rotate_left
             ·intro w'
              go_simp
              with_reducible rfl
             rotate_left
             ·simp only [Act.put, List.setIfInBounds_toArray, List.set_cons_zero, List.set_cons_succ, i64_w, i32_w]
              rfl
             refine take_ (i := 1) (N := some 82) (v := ?_) (a' := ?_) #[true, true, false, false, true, false, false, false, false, false, false, false] rfl rfl (take_ofW HT_.out HW_.out zF6_6) (fun _ _ _ h => h) (Or.inl ⟨by rfl, ?_⟩) hHeld ?_ ?_
             rotate_left
             ·rintro w' ⟨s0, s1, s2, s3, s4, s5, s6⟩
              go_simp
              with_reducible rfl
             rotate_left
             ·simp only [Act.put, List.setIfInBounds_toArray, List.set_cons_zero, List.set_cons_succ, i64_w, i32_w]
              rfl
             refine take_ (i := 2) (N := some 83) (v := ?_) (a' := ?_) #[true, true, true, false, true, false, false, false, false, false, false, false] rfl rfl (take_ofW HT_.out HW_.out zF6_6) (fun _ _ _ h => h) (Or.inl ⟨by rfl, ?_⟩) hHeld ?_ ?_
             rotate_left
             ·rintro w' ⟨s0, s1, s2, s3, s4, s5, s6⟩
              go_simp
              with_reducible rfl
             rotate_left
             ·simp only [Act.put, List.setIfInBounds_toArray, List.set_cons_zero, List.set_cons_succ, i64_w, i32_w]
              rfl
             refine take_ (i := 5) (N := some 86) (v := ?_) (a' := ?_) #[true, true, true, false, true, true, false, false, false, false, false, false] rfl rfl (take_ofW HT_.out HW_.out zF6_6) (fun _ _ _ h => h) (Or.inl ⟨by rfl, ?_⟩) hHeld ?_ ?_
             rotate_left
             ·rintro w' ⟨s0, s1, s2, s3, s4, s5, s6⟩
              go_simp
              with_reducible rfl
             rotate_left
             ·simp only [Act.put, List.setIfInBounds_toArray, List.set_cons_zero, List.set_cons_succ, i64_w, i32_w]
              rfl
             refine one_ (i := 3) (N := some 84) #[true, true, true, true, true, true, false, false, false, false, false, false] rfl rfl (one_of HT_.out zF6_6) (by decide) (fun K hK => ?_)
             refine goes_ Tryz.func92 zF6_6 rfl #[.agg #[.int .i64 a0_0, .int .i64 a0_1, .bool false, .int .i64 a0_3, .string a0_4]] (by rfl) rfl rfl zF6_4 ?_
             with_reducible refine (colonnaderef02_scale.calls a0_0 a0_1 false a0_3 a0_4 t233 _ A87.out).mono ?_
             rintro e w100 ⟨rfl, hb⟩
             refine ⟨_, rfl, ?_⟩
             have n0_ := Aside0.mk (blk_below (g := gb217) (o := .cells #[.int .i64 a0_0, .int .i64 a0_1, .bool false, .int .i64 a0_3, .string a0_4] 41 (0, 0)) zF6_2 hb)
             have n1_ := Aside0.mk (blk_below (g := gb218) (o := .cells #[.int .i64 a1_0, .int .i64 a1_1] 34 (0, 0)) zF6_3 hb)
             have n2_ := Aside0.mk (blk_below (g := gb219) (o := .cells #[.int .i64 0, .int .i64 0, .bool false, .int .i64 0, .string (⟨#[]⟩ : ByteArray)] 41 (0, 0)) zF6_5 hb)
             have n3_ := Aside0.mk (blk_below (g := gb232) (o := .cells #[.int .i64 a1_0, .int .i64 a1_1, .bool false, .int .i64 a0_3, .string (⟨#[]⟩ : ByteArray)] 41 (0, 0)) zF6_12 hb)
             have n4_ := Aside0.mk (below_step zF6_8 hb)
             clear BK217
             clear BK218
             clear BK219
             clear BK232
             clear HB
             have BK217 := n0_
             have BK218 := n1_
             have BK219 := n2_
             have BK232 := n3_
             have HB := n4_
             clear n0_ n1_ n2_ n3_ n4_
             (try clear hb)
             (try clear hb2)
             (try clear hk)
             (try clear hi)
             refine hK.out _ _ ⟨(blk_cell BK217.out 0).trans rfl, (blk_cell BK217.out 1).trans rfl, (blk_cell BK217.out 2).trans rfl, (blk_cell BK217.out 3).trans rfl, (blk_cell BK217.out 4).trans rfl, (blk_cell BK218.out 0).trans rfl, (blk_cell BK218.out 1).trans rfl⟩ (fun hHeld => ?_)
             clear hK K
             refine norm_ (a' := ?_) ?_ ?_
             rotate_left
             ·show Act.put _ (some 84) _ = _
              simp only [Act.put, List.setIfInBounds_toArray, List.set_cons_zero, List.set_cons_succ, i64_w, i32_w]
              rfl
             refine one_ (i := 6) (N := some 87) #[true, true, true, true, true, true, true, false, false, false, false, false] rfl rfl (one_of HT_.out zF6_6) (by decide) (fun K hK => ?_)
             refine goes_ Tryz.func91 zF6_6 rfl #[.int .i64 a0_3, .int .i64 t233, .int .i64 a1_1] (by rfl) rfl rfl zF6_4 ?_
             with_reducible refine (colonnaderef01_Scale.calls kj70 a0_3 t233 a1_1 t234 t235 _ A88.out).mono ?_
             rintro e w' ⟨rfl, ⟨nd, rfl⟩⟩
             refine ⟨_, rfl, ?_⟩
             refine hK.out _ _ ⟨(blk_cell BK217.out 0).trans rfl, (blk_cell BK217.out 1).trans rfl, (blk_cell BK217.out 2).trans rfl, (blk_cell BK217.out 3).trans rfl, (blk_cell BK217.out 4).trans rfl, (blk_cell BK218.out 0).trans rfl, (blk_cell BK218.out 1).trans rfl⟩ (fun hHeld => ?_)
             clear hK K
             refine norm_ (a' := ?_) ?_ ?_
             rotate_left
             ·show Act.put _ (some 87) _ = _
              simp only [Act.put, List.setIfInBounds_toArray, List.set_cons_zero, List.set_cons_succ, i64_w, i32_w]
              rfl
             refine pure_ (i := 7) (N := some 80) (v := ?_) (a' := ?_) #[true, true, true, true, true, true, true, true, false, false, false, false] rfl rfl (any_of HT_.out zF6_6) (fun _ _ _ h => h) (Or.inl ⟨by rfl, ?_⟩) ?_ ?_
             rotate_left
             ·intro w'
              go_simp
              with_reducible rfl
             rotate_left
             ·simp only [Act.put, List.setIfInBounds_toArray, List.set_cons_zero, List.set_cons_succ, i64_w, i32_w]
              rfl
             refine pure_ (i := 8) (N := some 88) (v := ?_) (a' := ?_) #[true, true, true, true, true, true, true, true, true, false, false, false] rfl rfl (any_of HT_.out zF6_6) (fun _ _ _ h => h) (Or.inl ⟨by rfl, ?_⟩) ?_ ?_
             rotate_left
             ·intro w'
              go_simp
              with_reducible rfl
             rotate_left
             ·simp only [Act.put, List.setIfInBounds_toArray, List.set_cons_zero, List.set_cons_succ, i64_w, i32_w]
              rfl
             refine pure_ (i := 9) (N := some 89) (v := ?_) (a' := ?_) #[true, true, true, true, true, true, true, true, true, true, false, false] rfl rfl (any_of HT_.out zF6_6) (fun _ _ _ h => h) (Or.inl ⟨by rfl, ?_⟩) ?_ ?_
             rotate_left
             ·intro w'
              go_simp
              with_reducible rfl
             rotate_left
             ·simp only [Act.put, List.setIfInBounds_toArray, List.set_cons_zero, List.set_cons_succ, i64_w, i32_w]
              rfl
             refine pure_ (i := 10) (N := some 10) (v := ?_) (a' := ?_) #[true, true, true, true, true, true, true, true, true, true, true, false] rfl rfl (any_of HT_.out zF6_6) (fun _ _ _ h => h) (Or.inl ⟨by rfl, ?_⟩) ?_ ?_
             rotate_left
             ·intro w'
              go_simp
              with_reducible rfl
             rotate_left
             ·simp only [Act.put, List.setIfInBounds_toArray, List.set_cons_zero, List.set_cons_succ, i64_w, i32_w]
              rfl
             refine pure_ (i := 11) (N := some 11) (v := ?_) (a' := ?_) #[true, true, true, true, true, true, true, true, true, true, true, true] rfl rfl (any_of HT_.out zF6_6) (fun _ _ _ h => h) (Or.inl ⟨by rfl, ?_⟩) ?_ ?_
             rotate_left
             ·intro w'
              go_simp
              with_reducible rfl
             rotate_left
             ·simp only [Act.put, List.setIfInBounds_toArray, List.set_cons_zero, List.set_cons_succ, i64_w, i32_w]
              rfl
             refine done_ (done_of HT_.out zF6_6) ?_
             have hnb101 := NB219_217.out
             have hnc101 := NB217_219.out
             have hnb102 := NB219_218.out
             have hnc102 := NB218_219.out
             have hnb103 := NB219_232.out
             have hnc103 := NB232_219.out
             have hcz104_0 : w100.cell? ⟨gb219, 0, none⟩ = some (.int .i64 0) := (blk_cell BK219.out 0).trans rfl
             have hcz104_1 : w100.cell? ⟨gb219, 1, none⟩ = some (.int .i64 0) := (blk_cell BK219.out 1).trans rfl
             have hcz104_2 : w100.cell? ⟨gb219, 2, none⟩ = some (.bool false) := (blk_cell BK219.out 2).trans rfl
             have hcz104_3 : w100.cell? ⟨gb219, 3, none⟩ = some (.int .i64 0) := (blk_cell BK219.out 3).trans rfl
             have hcz104_4 : w100.cell? ⟨gb219, 4, none⟩ = some (.string (⟨#[]⟩ : ByteArray)) := (blk_cell BK219.out 4).trans rfl
             have hfz104_0 := blk_frozen BK219.out 0
             have hfz104_1 := blk_frozen BK219.out 1
             have hfz104_2 := blk_frozen BK219.out 2
             have hfz104_3 := blk_frozen BK219.out 3
             have hfz104_4 := blk_frozen BK219.out 4
             try go_wp2
             refine bodyPost_ret (results_ct rfl _ _ gb219 41 #[.int .i64 0, .int .i64 0, .bool false, .int .i64 0, .string (⟨#[]⟩ : ByteArray)] (0, 0) _ rfl zF6_0 Tryz.underlying41 rfl zF6_6) rfl ?_
             exact ⟨by first | rfl | (simp [errW_none, errW_some] <;> rfl) | (simp [*, errW_none, errW_some] <;> rfl), by repeat (first | (with_reducible first | exact HB.out | apply below_alloc | apply pw_below_drewN | apply below_drew1 | refine below_set ?_ GE217.out | refine below_set ?_ GE218.out | refine below_set ?_ GE219.out | refine below_set ?_ GE232.out) | exact HB.out)⟩
        ·replace c70 := Bool.eq_false_iff.mpr c70
         subst c70
         have H1 : (some (a1_0, a1_1, false, a0_3, (⟨#[]⟩ : ByteArray), 0)) = some (r1, r2, r3, r4, r5, r6) := by rw [if_neg (show ¬ (false = true) by decide)] at H; exact H
         clear H
         have H := H1
         clear H1
         simp only [Option.some.injEq, Prod.mk.injEq] at H
         obtain ⟨rfl, rfl, rfl, rfl, rfl, rfl⟩ := H
         have hnb105 := NB232_217.out
         have hnc105 := NB217_232.out
         have hnb106 := NB232_218.out
         have hnc106 := NB218_232.out
         have hnb107 := NB232_219.out
         have hnc107 := NB219_232.out
         have hcz108_0 : wc.cell? ⟨gb232, 0, none⟩ = some (.int .i64 a1_0) := (blk_cell BK232.out 0).trans rfl
         have hcz108_1 : wc.cell? ⟨gb232, 1, none⟩ = some (.int .i64 a1_1) := (blk_cell BK232.out 1).trans rfl
         have hcz108_2 : wc.cell? ⟨gb232, 2, none⟩ = some (.bool false) := (blk_cell BK232.out 2).trans rfl
         have hcz108_3 : wc.cell? ⟨gb232, 3, none⟩ = some (.int .i64 a0_3) := (blk_cell BK232.out 3).trans rfl
         have hcz108_4 : wc.cell? ⟨gb232, 4, none⟩ = some (.string (⟨#[]⟩ : ByteArray)) := (blk_cell BK232.out 4).trans rfl
         have hfz108_0 := blk_frozen BK232.out 0
         have hfz108_1 := blk_frozen BK232.out 1
         have hfz108_2 := blk_frozen BK232.out 2
         have hfz108_3 := blk_frozen BK232.out 3
         have hfz108_4 := blk_frozen BK232.out 4
         have hnb109 := NB219_217.out
         have hnc109 := NB217_219.out
         have hnb110 := NB219_218.out
         have hnc110 := NB218_219.out
         have hcz111_0 : wc.cell? ⟨gb219, 0, none⟩ = some (.int .i64 0) := (blk_cell BK219.out 0).trans rfl
         have hcz111_1 : wc.cell? ⟨gb219, 1, none⟩ = some (.int .i64 0) := (blk_cell BK219.out 1).trans rfl
         have hcz111_2 : wc.cell? ⟨gb219, 2, none⟩ = some (.bool false) := (blk_cell BK219.out 2).trans rfl
         have hcz111_3 : wc.cell? ⟨gb219, 3, none⟩ = some (.int .i64 0) := (blk_cell BK219.out 3).trans rfl
         have hcz111_4 : wc.cell? ⟨gb219, 4, none⟩ = some (.string (⟨#[]⟩ : ByteArray)) := (blk_cell BK219.out 4).trans rfl
         have hfz111_0 := blk_frozen BK219.out 0
         have hfz111_1 := blk_frozen BK219.out 1
         have hfz111_2 := blk_frozen BK219.out 2
         have hfz111_3 := blk_frozen BK219.out 3
         have hfz111_4 := blk_frozen BK219.out 4
         go_wp2
         refine bodyPost_ret (results_ct rfl _ _ gb219 41 #[.int .i64 a1_0, .int .i64 a1_1, .bool false, .int .i64 a0_3, .string (⟨#[]⟩ : ByteArray)] (0, 0) _ rfl (by (with_reducible repeat (first | refine blk_drewN ?_ _ | refine blk_drew ?_ | refine blk_alloc ?_ _)); refine blk_put (cs := #[.int .i64 a1_0, .int .i64 a1_1, .bool false, .int .i64 a0_3, .string (⟨#[]⟩ : ByteArray)]) ?_ 4 _ rfl; (with_reducible repeat (first | refine blk_drewN ?_ _ | refine blk_drew ?_ | refine blk_alloc ?_ _)); refine blk_put (cs := #[.int .i64 a1_0, .int .i64 a1_1, .bool false, .int .i64 0, .string (⟨#[]⟩ : ByteArray)]) ?_ 3 _ rfl; (with_reducible repeat (first | refine blk_drewN ?_ _ | refine blk_drew ?_ | refine blk_alloc ?_ _)); refine blk_put (cs := #[.int .i64 a1_0, .int .i64 a1_1, .bool false, .int .i64 0, .string (⟨#[]⟩ : ByteArray)]) ?_ 2 _ rfl; (with_reducible repeat (first | refine blk_drewN ?_ _ | refine blk_drew ?_ | refine blk_alloc ?_ _)); refine blk_put (cs := #[.int .i64 a1_0, .int .i64 0, .bool false, .int .i64 0, .string (⟨#[]⟩ : ByteArray)]) ?_ 1 _ rfl; (with_reducible repeat (first | refine blk_drewN ?_ _ | refine blk_drew ?_ | refine blk_alloc ?_ _)); refine blk_put (cs := #[.int .i64 0, .int .i64 0, .bool false, .int .i64 0, .string (⟨#[]⟩ : ByteArray)]) ?_ 0 _ rfl; (with_reducible repeat (first | refine blk_drewN ?_ _ | refine blk_drew ?_ | refine blk_alloc ?_ _)); exact BK219.out) Tryz.underlying41 rfl zF6_6) rfl ?_
         exact ⟨by first | rfl | (simp [errW_none, errW_some] <;> rfl) | (simp [*, errW_none, errW_some] <;> rfl), by repeat (first | (with_reducible first | exact HB.out | apply below_alloc | apply pw_below_drewN | apply below_drew1 | refine below_set ?_ GE217.out | refine below_set ?_ GE218.out | refine below_set ?_ GE219.out | refine below_set ?_ GE232.out) | exact HB.out)⟩
  ·replace c6 := Bool.eq_false_iff.mpr c6
   subst c6
   have H1 : (some (0, 0, false, 0, (⟨#[]⟩ : ByteArray), 21)) = some (r1, r2, r3, r4, r5, r6) := by rw [if_neg (show ¬ (false = true) by decide)] at H; exact H
   clear H
   have H := H1
   clear H1
   simp only [Option.some.injEq, Prod.mk.injEq] at H
   obtain ⟨rfl, rfl, rfl, rfl, rfl, rfl⟩ := H
   go_wp2_with (first | ((with_reducible refine gate_callee (f := 54) rfl ?_); refine goesL_ (some 13) rfl rfl Tryz.func54 zF6_6 rfl #[.agg #[.int .i64 a1_0, .int .i64 a1_1]] rfl zF6_4 ?_; (with_reducible refine (colonnaderef02_CheckType.calls a1_0 a1_1 t220 _ A3.out).mono ?_); rintro e w118 ⟨rfl, hb⟩; refine ⟨_, rfl, ?_⟩; have n0_ := Aside0.mk (blk_below (g := gb217) (o := .cells #[.int .i64 a0_0, .int .i64 a0_1, .bool a0_2, .int .i64 a0_3, .string a0_4] 41 (0, 0)) zF6_2 hb); have n1_ := Aside0.mk (blk_below (g := gb218) (o := .cells #[.int .i64 a1_0, .int .i64 a1_1] 34 (0, 0)) zF6_3 hb); have n2_ := Aside0.mk (blk_below (g := gb219) (o := .cells #[.int .i64 0, .int .i64 0, .bool false, .int .i64 0, .string (⟨#[]⟩ : ByteArray)] 41 (0, 0)) zF6_5 hb); have n3_ := Aside0.mk (below_step zF6_1 hb); clear BK217; clear BK218; clear BK219; clear HB; have BK217 := n0_; have BK218 := n1_; have BK219 := n2_; have HB := n3_; clear n0_ n1_ n2_ n3_; (try clear hb); (try clear hb2); (try clear hk); (try clear hi); have hnb119 := NB217_219.out; have hnc119 := NB219_217.out; have hcz120_0 : w118.cell? ⟨gb217, 0, none⟩ = some (.int .i64 a0_0) := (blk_cell BK217.out 0).trans rfl; have hcz120_1 : w118.cell? ⟨gb217, 1, none⟩ = some (.int .i64 a0_1) := (blk_cell BK217.out 1).trans rfl; have hcz120_2 : w118.cell? ⟨gb217, 2, none⟩ = some (.bool a0_2) := (blk_cell BK217.out 2).trans rfl; have hcz120_3 : w118.cell? ⟨gb217, 3, none⟩ = some (.int .i64 a0_3) := (blk_cell BK217.out 3).trans rfl; have hcz120_4 : w118.cell? ⟨gb217, 4, none⟩ = some (.string a0_4) := (blk_cell BK217.out 4).trans rfl; have hfz120_0 := blk_frozen BK217.out 0; have hfz120_1 := blk_frozen BK217.out 1; have hfz120_2 := blk_frozen BK217.out 2; have hfz120_3 := blk_frozen BK217.out 3; have hfz120_4 := blk_frozen BK217.out 4; have hcz121_0 : w118.cell? ⟨gb218, 0, none⟩ = some (.int .i64 a1_0) := (blk_cell BK218.out 0).trans rfl; have hcz121_1 : w118.cell? ⟨gb218, 1, none⟩ = some (.int .i64 a1_1) := (blk_cell BK218.out 1).trans rfl; have hfz121_0 := blk_frozen BK218.out 0; have hfz121_1 := blk_frozen BK218.out 1) | ((with_reducible refine gate_callee (f := 87) rfl ?_); refine goesL_ (some 24) rfl rfl Tryz.func87 zF6_6 rfl #[.int .i64 a0_0, .int .i64 a1_0] rfl zF6_4 ?_; (with_reducible refine (colonnaderef02_way.calls a0_0 a1_0 false _ A5.out).mono ?_); rintro e w' ⟨rfl, ⟨nd, rfl⟩⟩; refine ⟨_, rfl, ?_⟩; (try (rw [drewN_self w118]; generalize hq_ : World.drewN w118 _ = w118; have n0_ : Aside0 (w118.heap[gb217]? = some (.cells #[.int .i64 a0_0, .int .i64 a0_1, .bool a0_2, .int .i64 a0_3, .string a0_4] 41 (0, 0))) := ⟨by rw [← hq_]; exact zF6_2⟩; have n1_ : Aside0 (w118.heap[gb218]? = some (.cells #[.int .i64 a1_0, .int .i64 a1_1] 34 (0, 0))) := ⟨by rw [← hq_]; exact zF6_3⟩; have n2_ : Aside0 (w118.heap[gb219]? = some (.cells #[.int .i64 0, .int .i64 0, .bool false, .int .i64 0, .string (⟨#[]⟩ : ByteArray)] 41 (0, 0))) := ⟨by rw [← hq_]; exact zF6_5⟩; have n3_ : Aside0 (Below w.heap.size w w118) := ⟨by rw [← hq_]; exact zF6_1⟩; clear BK217 BK218 BK219 HB hq_; have BK217 := n0_; have BK218 := n1_; have BK219 := n2_; have HB := n3_; clear n0_ n1_ n2_ n3_; have hcy217_0 : w118.cell? ⟨gb217, 0, none⟩ = some (.int .i64 a0_0) := (blk_cell BK217.out 0).trans rfl; have hfy217_0 := blk_frozen BK217.out 0; have hcy217_1 : w118.cell? ⟨gb217, 1, none⟩ = some (.int .i64 a0_1) := (blk_cell BK217.out 1).trans rfl; have hfy217_1 := blk_frozen BK217.out 1; have hcy217_2 : w118.cell? ⟨gb217, 2, none⟩ = some (.bool a0_2) := (blk_cell BK217.out 2).trans rfl; have hfy217_2 := blk_frozen BK217.out 2; have hcy217_3 : w118.cell? ⟨gb217, 3, none⟩ = some (.int .i64 a0_3) := (blk_cell BK217.out 3).trans rfl; have hfy217_3 := blk_frozen BK217.out 3; have hcy217_4 : w118.cell? ⟨gb217, 4, none⟩ = some (.string a0_4) := (blk_cell BK217.out 4).trans rfl; have hfy217_4 := blk_frozen BK217.out 4; have hcy218_0 : w118.cell? ⟨gb218, 0, none⟩ = some (.int .i64 a1_0) := (blk_cell BK218.out 0).trans rfl; have hfy218_0 := blk_frozen BK218.out 0; have hcy218_1 : w118.cell? ⟨gb218, 1, none⟩ = some (.int .i64 a1_1) := (blk_cell BK218.out 1).trans rfl; have hfy218_1 := blk_frozen BK218.out 1; have hcy219_0 : w118.cell? ⟨gb219, 0, none⟩ = some (.int .i64 0) := (blk_cell BK219.out 0).trans rfl; have hfy219_0 := blk_frozen BK219.out 0; have hcy219_1 : w118.cell? ⟨gb219, 1, none⟩ = some (.int .i64 0) := (blk_cell BK219.out 1).trans rfl; have hfy219_1 := blk_frozen BK219.out 1; have hcy219_2 : w118.cell? ⟨gb219, 2, none⟩ = some (.bool false) := (blk_cell BK219.out 2).trans rfl; have hfy219_2 := blk_frozen BK219.out 2; have hcy219_3 : w118.cell? ⟨gb219, 3, none⟩ = some (.int .i64 0) := (blk_cell BK219.out 3).trans rfl; have hfy219_3 := blk_frozen BK219.out 3; have hcy219_4 : w118.cell? ⟨gb219, 4, none⟩ = some (.string (⟨#[]⟩ : ByteArray)) := (blk_cell BK219.out 4).trans rfl; have hfy219_4 := blk_frozen BK219.out 4)); have hcz122_0 : w118.cell? ⟨gb219, 0, none⟩ = some (.int .i64 0) := (blk_cell BK219.out 0).trans rfl; have hcz122_1 : w118.cell? ⟨gb219, 1, none⟩ = some (.int .i64 0) := (blk_cell BK219.out 1).trans rfl; have hcz122_2 : w118.cell? ⟨gb219, 2, none⟩ = some (.bool false) := (blk_cell BK219.out 2).trans rfl; have hcz122_3 : w118.cell? ⟨gb219, 3, none⟩ = some (.int .i64 0) := (blk_cell BK219.out 3).trans rfl; have hcz122_4 : w118.cell? ⟨gb219, 4, none⟩ = some (.string (⟨#[]⟩ : ByteArray)) := (blk_cell BK219.out 4).trans rfl; have hfz122_0 := blk_frozen BK219.out 0; have hfz122_1 := blk_frozen BK219.out 1; have hfz122_2 := blk_frozen BK219.out 2; have hfz122_3 := blk_frozen BK219.out 3; have hfz122_4 := blk_frozen BK219.out 4))
   refine bodyPost_ret (results_ct rfl _ _ gb219 41 #[.int .i64 0, .int .i64 0, .bool false, .int .i64 0, .string (⟨#[]⟩ : ByteArray)] (0, 0) _ rfl zF6_0 Tryz.underlying41 rfl zF6_6) rfl ?_
   exact ⟨by first | rfl | (simp [errW_none, errW_some] <;> rfl) | (simp [*, errW_none, errW_some] <;> rfl), by repeat (first | (with_reducible first | exact HB.out | apply below_alloc | apply pw_below_drewN | apply below_drew1 | refine below_set ?_ GE217.out | refine below_set ?_ GE218.out | refine below_set ?_ GE219.out) | exact HB.out)⟩
 ·rw [if_neg c4] at H
  have c4b0 : (t220 == 0) = false := beq_eq_false_iff_ne.mpr c4
  have c4b1 : (t220 != 0) = true := bne_iff_ne.mpr c4
  simp only [Option.some.injEq, Prod.mk.injEq] at H
  obtain ⟨rfl, rfl, rfl, rfl, rfl, rfl⟩ := H
  go_wp2_with (first | ((with_reducible refine gate_callee (f := 54) rfl ?_); refine goesL_ (some 13) rfl rfl Tryz.func54 zF6_6 rfl #[.agg #[.int .i64 a1_0, .int .i64 a1_1]] rfl zF6_4 ?_; (with_reducible refine (colonnaderef02_CheckType.calls a1_0 a1_1 t220 _ A3.out).mono ?_); rintro e w129 ⟨rfl, hb⟩; refine ⟨_, rfl, ?_⟩; have n0_ := Aside0.mk (blk_below (g := gb217) (o := .cells #[.int .i64 a0_0, .int .i64 a0_1, .bool a0_2, .int .i64 a0_3, .string a0_4] 41 (0, 0)) zF6_2 hb); have n1_ := Aside0.mk (blk_below (g := gb218) (o := .cells #[.int .i64 a1_0, .int .i64 a1_1] 34 (0, 0)) zF6_3 hb); have n2_ := Aside0.mk (blk_below (g := gb219) (o := .cells #[.int .i64 0, .int .i64 0, .bool false, .int .i64 0, .string (⟨#[]⟩ : ByteArray)] 41 (0, 0)) zF6_5 hb); have n3_ := Aside0.mk (below_step zF6_1 hb); clear BK217; clear BK218; clear BK219; clear HB; have BK217 := n0_; have BK218 := n1_; have BK219 := n2_; have HB := n3_; clear n0_ n1_ n2_ n3_; (try clear hb); (try clear hb2); (try clear hk); (try clear hi); have hnb130 := NB219_217.out; have hnc130 := NB217_219.out; have hcz131_0 : w129.cell? ⟨gb219, 0, none⟩ = some (.int .i64 0) := (blk_cell BK219.out 0).trans rfl; have hcz131_1 : w129.cell? ⟨gb219, 1, none⟩ = some (.int .i64 0) := (blk_cell BK219.out 1).trans rfl; have hcz131_2 : w129.cell? ⟨gb219, 2, none⟩ = some (.bool false) := (blk_cell BK219.out 2).trans rfl; have hcz131_3 : w129.cell? ⟨gb219, 3, none⟩ = some (.int .i64 0) := (blk_cell BK219.out 3).trans rfl; have hcz131_4 : w129.cell? ⟨gb219, 4, none⟩ = some (.string (⟨#[]⟩ : ByteArray)) := (blk_cell BK219.out 4).trans rfl; have hfz131_0 := blk_frozen BK219.out 0; have hfz131_1 := blk_frozen BK219.out 1; have hfz131_2 := blk_frozen BK219.out 2; have hfz131_3 := blk_frozen BK219.out 3; have hfz131_4 := blk_frozen BK219.out 4))
  refine bodyPost_ret (results_ct rfl _ _ gb219 41 #[.int .i64 0, .int .i64 0, .bool false, .int .i64 0, .string (⟨#[]⟩ : ByteArray)] (0, 0) _ rfl zF6_0 Tryz.underlying41 rfl zF6_6) rfl ?_
  exact ⟨by first | rfl | (simp [errW_none, errW_some] <;> rfl) | (simp [*, errW_none, errW_some] <;> rfl), by repeat (first | (with_reducible first | exact HB.out | apply below_alloc | apply pw_below_drewN | apply below_drew1 | refine below_set ?_ GE217.out | refine below_set ?_ GE218.out | refine below_set ?_ GE219.out) | exact HB.out)⟩

end Go.Proofs.YtmeopdjdjmjngaaGreatDoor.F
