/- PRINTED BY A PROGRAM OF THIS SESSION (px.py, over the kit's print): Lean functions with the answers of Go functions of the given program, and proofs that the Go code comes to these answers; each under the conditions that its theorem states. -/
import Derived.Test.YtjpgjggbanpegaaGreatDoorE0
import Derived.Test.YtjpgjggbanpegaaGreatDoorE7
namespace Go.Proofs.YtjpgjggbanpegaaGreatDoor.E
open Go.RowKit Go.Proofs.YtjpgjggbanpegaaGreatDoorW.PrintWords Go.Proofs.YtjpgjggbanpegaaGreatDoorW.PrintLast Go.Proofs.YtjpgjggbanpegaaGreatDoorW.PrintMore
attribute [local go_sem] max2_int min2_int max_two min_two max_three min_three max_four min_four   -- for this text's walks alone
set_option linter.unusedVariables false
set_option linter.unusedSimpArgs false
theorem zE8_0 {P : Prop} (h : P := by (try simp only [List.map_toArray, List.map_cons, List.map_nil]); first | done | rfl | (simp only [List.length_drop, List.length_take]; rfl)) : P := h
theorem zE8_1 {P : Prop} (h : P := by repeat (first | (with_reducible first | exact HB.out | apply below_alloc | apply pw_below_drewN | apply below_drew1 | refine below_set ?_ GE237.out) | exact HB.out)) : P := h
theorem zE8_2 {P : Prop} (h : P := by (with_reducible repeat (first | refine blk_drewN ?_ _ | refine blk_drew ?_ | refine blk_alloc ?_ _)); exact BK237.out) : P := h
theorem zE8_3 {P : Prop} (h : P := by repeat (first | (with_reducible first | exact HB.out | apply below_alloc | apply pw_below_drewN | apply below_drew1) | exact HB.out)) : P := h
theorem zE8_4 {P : Prop} (h : P := by first | rfl | (simp; done) | (simp [*]; done)) : P := h
theorem zE8_5 {P : Prop} (h : P := by kernel_rfl) : P := h
theorem zE8_6 {P : Prop} (h : P := by first | (with_reducible assumption) | assumption) : P := h
theorem zE8_7 {P : Prop} (h : P := by (with_reducible repeat (first | apply Kd.R_alloc | apply Kd.R_drewN | apply Kd.R_drew)); exact HO_6.out) : P := h
theorem zE8_8 {P : Prop} (h : P := by rw [hg]; exact (below_size zE8_3)) : P := h

/-! ### colonnaderef02_Show: function 20 -/
def colonnaderef02_Show.l0 : Nat → List Int → Int → Int → Int → Bool → Int → ByteArray → Option (ByteArray)
 | 0, _, _, _, _, _, _, _ => none
 | k + 1, x6, x7, x238000, x238001, x238002, x238003, x238004 => if x7 < (x238004.size : Int) then (if 0 ≤ x7 then (if (bt x238004 x7) = 39 then (if x6.length < 140737488355328 then ((some (x6 ++ [39] : List Int)).bind fun y244 => (if y244.length < 140737488355328 then (colonnaderef02_Show.l0 k (y244 ++ [bt x238004 x7]) (wrap64 (x7 + 1)) x238000 x238001 x238002 x238003 x238004) else (none))) else (none)) else (if x6.length < 140737488355328 then (colonnaderef02_Show.l0 k (x6 ++ [bt x238004 x7]) (wrap64 (x7 + 1)) x238000 x238001 x238002 x238003 x238004) else (none))) else (none)) else (if x6.length < 140737488355328 then (some (strOfNums (x6 ++ [39]))) else (none))
def colonnaderef02_Show.f (k : Nat) (a0_0 : Int) (a0_1 : Int) (a0_2 : Bool) (a0_3 : Int) (a0_4 : ByteArray) : Option (ByteArray) := if a0_2 = true then (some (⟨#[78, 85, 76, 76]⟩ : ByteArray)) else ((colonnaderef01_FormatInt.f k a0_3).bind fun t238 => (if a0_0 = 1 then (if a0_3 = 0 then (some (⟨#[70, 65, 76, 83, 69]⟩ : ByteArray)) else (some (⟨#[84, 82, 85, 69]⟩ : ByteArray))) else (if a0_0 = 2 then (some t238) else (if a0_0 = 3 then ((colonnaderef01_FormatDec.f k a0_3 a0_1).bind fun bt239 => (if bt239.2 = 0 then (some bt239.1) else (some t238))) else (if a0_0 = 4 then (colonnaderef02_Show.l0 k (([39] : List Int)) 0 a0_0 a0_1 a0_2 a0_3 a0_4) else (if a0_0 = 5 then ((colonnaderef01_FormatDay.f k a0_3).bind fun bt256 => (if bt256.2 = 0 then (some bt256.1) else (some t238))) else (some (⟨#[63]⟩ : ByteArray))))))))
theorem colonnaderef02_Show.mono_l : ∀ k, (∀ y0 y1 y2 y3 y4 y5 y6, LeO (colonnaderef02_Show.l0 k y0 y1 y2 y3 y4 y5 y6) (colonnaderef02_Show.l0 (k + 1) y0 y1 y2 y3 y4 y5 y6))
 | 0 => fun _ _ _ _ _ _ _ r h => by simp [colonnaderef02_Show.l0] at h
 | k + 1 => by
  have ih0 := colonnaderef02_Show.mono_l k
  ·intro y0 y1 y2 y3 y4 y5 y6
   unfold colonnaderef02_Show.l0
   repeat' first
   | (with_reducible exact ih0 _ _ _ _ _ _ _)
   | (with_reducible exact colonnaderef01_FormatDay.mono _ _)
   | (with_reducible exact colonnaderef01_FormatDec.mono _ _ _)
   | (with_reducible exact colonnaderef01_FormatInt.mono _ _)
   | (with_reducible exact LeO.refl _)
   | (with_reducible exact LeO.none _)
   | (with_reducible refine LeO.ite ?_ ?_)
   | (with_reducible refine LeO.bind ?_ (fun _ => ?_))
   | exact ih0 _ _ _ _ _ _ _
   | exact colonnaderef01_FormatDay.mono _ _
   | exact colonnaderef01_FormatDec.mono _ _ _
   | exact colonnaderef01_FormatInt.mono _ _
   | exact LeO.none _
   | refine LeO.ite ?_ ?_
   | refine LeO.bind ?_ (fun _ => ?_)
theorem colonnaderef02_Show.mono : ∀ a0 a1 a2 a3 a4 k, LeO (colonnaderef02_Show.f k a0 a1 a2 a3 a4) (colonnaderef02_Show.f (k + 1) a0 a1 a2 a3 a4) := by
 intro a0 a1 a2 a3 a4 k
 have ih0 := colonnaderef02_Show.mono_l k
 unfold colonnaderef02_Show.f
 repeat' first
   | (with_reducible exact ih0 _ _ _ _ _ _ _)
   | (with_reducible exact colonnaderef01_FormatDay.mono _ _)
   | (with_reducible exact colonnaderef01_FormatDec.mono _ _ _)
   | (with_reducible exact colonnaderef01_FormatInt.mono _ _)
   | (with_reducible exact LeO.refl _)
   | (with_reducible exact LeO.none _)
   | (with_reducible refine LeO.ite ?_ ?_)
   | (with_reducible refine LeO.bind ?_ (fun _ => ?_))
   | exact ih0 _ _ _ _ _ _ _
   | exact colonnaderef01_FormatDay.mono _ _
   | exact colonnaderef01_FormatDec.mono _ _ _
   | exact colonnaderef01_FormatInt.mono _ _
   | exact LeO.none _
   | refine LeO.ite ?_ ?_
   | refine LeO.bind ?_ (fun _ => ?_)
set_option maxHeartbeats 8000000 in
set_option maxRecDepth 100000 in
theorem colonnaderef02_Show.calls (k : Nat) (a0_0 : Int) (a0_1 : Int) (a0_2 : Bool) (a0_3 : Int) (a0_4 : ByteArray) (r : ByteArray) (w : World) (h : colonnaderef02_Show.f k a0_0 a0_1 a0_2 a0_3 a0_4 = some r) :
  Calls Tryz.prog 20 #[.agg #[.int .i64 a0_0, .int .i64 a0_1, .bool a0_2, .int .i64 a0_3, .string a0_4]] w fun e w' => e = .returned (.string r) ∧ Below w.heap.size w w' := by
 have hu25 := Tryz.underlying25
 have HB := Aside0.mk (Below.refl w.heap.size w)
 have HF_ := Aside0.mk h
 clear h
 go_enter Tryz.func20, Tryz.ntmps20
 go_upto_region 1 with (first | ((with_reducible refine gate_dst (N := 1) rfl ?_); refine box_event ?hg (N := 1) ?hd (cs := #[.int .i64 a0_0, .int .i64 a0_1, .bool a0_2, .int .i64 a0_3, .string a0_4]) (t := 25) ?hr ?_; (case hd => rfl); (case hg => rfl); (case hr => first | (go_simp; done) | (go_simp; rfl)); intro gb237 hg w3 hbox hb; have n0_ := Aside0.mk (below_step zE8_3 hb); have n1_ := Aside0.mk (hbox); have n2_ := Aside0.mk ((zE8_8 : w.heap.size ≤ gb237)); have n3_ := Aside0.mk ((zE8_8 : w.heap.size ≤ gb237)); clear HB; have HB := n0_; have BK237 := n1_; have GW237 := n2_; have GE237 := n3_; clear n0_ n1_ n2_ n3_; clear hb hbox hg; have hcz4_0 : w3.cell? ⟨gb237, 0, none⟩ = some (.int .i64 a0_0) := (blk_cell BK237.out 0).trans rfl; have hcz4_1 : w3.cell? ⟨gb237, 1, none⟩ = some (.int .i64 a0_1) := (blk_cell BK237.out 1).trans rfl; have hcz4_2 : w3.cell? ⟨gb237, 2, none⟩ = some (.bool a0_2) := (blk_cell BK237.out 2).trans rfl; have hcz4_3 : w3.cell? ⟨gb237, 3, none⟩ = some (.int .i64 a0_3) := (blk_cell BK237.out 3).trans rfl; have hcz4_4 : w3.cell? ⟨gb237, 4, none⟩ = some (.string a0_4) := (blk_cell BK237.out 4).trans rfl; have hfz4_0 := blk_frozen BK237.out 0; have hfz4_1 := blk_frozen BK237.out 1; have hfz4_2 := blk_frozen BK237.out 2; have hfz4_3 := blk_frozen BK237.out 3; have hfz4_4 := blk_frozen BK237.out 4))
 (try simp only [Act.put, List.setIfInBounds_toArray, List.set_cons_zero, List.set_cons_succ])
 have h := HF_.out
 clear HF_
 have H : (if a0_2 = true then (some (⟨#[78, 85, 76, 76]⟩ : ByteArray)) else ((colonnaderef01_FormatInt.f k a0_3).bind fun t238 => (if a0_0 = 1 then (if a0_3 = 0 then (some (⟨#[70, 65, 76, 83, 69]⟩ : ByteArray)) else (some (⟨#[84, 82, 85, 69]⟩ : ByteArray))) else (if a0_0 = 2 then (some t238) else (if a0_0 = 3 then ((colonnaderef01_FormatDec.f k a0_3 a0_1).bind fun bt239 => (if bt239.2 = 0 then (some bt239.1) else (some t238))) else (if a0_0 = 4 then (colonnaderef02_Show.l0 k (([39] : List Int)) 0 a0_0 a0_1 a0_2 a0_3 a0_4) else (if a0_0 = 5 then ((colonnaderef01_FormatDay.f k a0_3).bind fun bt256 => (if bt256.2 = 0 then (some bt256.1) else (some t238))) else (some (⟨#[63]⟩ : ByteArray))))))))) = some r := h
 clear h
 by_cases c2 : a0_2 = true
 ·subst c2
  have H1 : (some (⟨#[78, 85, 76, 76]⟩ : ByteArray)) = some r := by rw [if_pos rfl] at H; exact H
  clear H
  have H := H1
  clear H1
  obtain rfl := Option.some.inj H
  go_wp2
  go_ret
  exact ⟨by first | rfl | (simp [errW_none, errW_some] <;> rfl) | (simp [*, errW_none, errW_some] <;> rfl), by repeat (first | (with_reducible first | exact HB.out | apply below_alloc | apply pw_below_drewN | apply below_drew1 | refine below_set ?_ GE237.out) | exact HB.out)⟩
 ·replace c2 := Bool.eq_false_iff.mpr c2
  subst c2
  have H1 : ((colonnaderef01_FormatInt.f k a0_3).bind fun t238 => (if a0_0 = 1 then (if a0_3 = 0 then (some (⟨#[70, 65, 76, 83, 69]⟩ : ByteArray)) else (some (⟨#[84, 82, 85, 69]⟩ : ByteArray))) else (if a0_0 = 2 then (some t238) else (if a0_0 = 3 then ((colonnaderef01_FormatDec.f k a0_3 a0_1).bind fun bt239 => (if bt239.2 = 0 then (some bt239.1) else (some t238))) else (if a0_0 = 4 then (colonnaderef02_Show.l0 k (([39] : List Int)) 0 a0_0 a0_1 false a0_3 a0_4) else (if a0_0 = 5 then ((colonnaderef01_FormatDay.f k a0_3).bind fun bt256 => (if bt256.2 = 0 then (some bt256.1) else (some t238))) else (some (⟨#[63]⟩ : ByteArray)))))))) = some r := by rw [if_neg (show ¬ (false = true) by decide)] at H; exact H
  clear H
  have H := H1
  clear H1
  replace H := Option.bind_eq_some_iff.mp H
  obtain ⟨t238, A50, H⟩ := H
  replace H : (if a0_0 = 1 then (if a0_3 = 0 then (some (⟨#[70, 65, 76, 83, 69]⟩ : ByteArray)) else (some (⟨#[84, 82, 85, 69]⟩ : ByteArray))) else (if a0_0 = 2 then (some t238) else (if a0_0 = 3 then ((colonnaderef01_FormatDec.f k a0_3 a0_1).bind fun bt239 => (if bt239.2 = 0 then (some bt239.1) else (some t238))) else (if a0_0 = 4 then (colonnaderef02_Show.l0 k (([39] : List Int)) 0 a0_0 a0_1 false a0_3 a0_4) else (if a0_0 = 5 then ((colonnaderef01_FormatDay.f k a0_3).bind fun bt256 => (if bt256.2 = 0 then (some bt256.1) else (some t238))) else (some (⟨#[63]⟩ : ByteArray))))))) = some r := H
  have A5 := Aside0.mk A50
  clear A50
  by_cases c6 : a0_0 = 1
  ·rw [if_pos c6] at H
   have c6b0 : (a0_0 == 1) = true := beq_iff_eq.mpr c6
   have c6b1 : (a0_0 != 1) = false := bne_eq_false_iff_eq.mpr c6
   clear c6
   by_cases c7 : a0_3 = 0
   ·rw [if_pos c7] at H
    have c7b0 : (a0_3 == 0) = true := beq_iff_eq.mpr c7
    have c7b1 : (a0_3 != 0) = false := bne_eq_false_iff_eq.mpr c7
    clear c7
    obtain rfl := Option.some.inj H
    go_wp2_with (first | ((with_reducible refine gate_callee (f := 40) rfl ?_); refine goesL_ (some 14) rfl rfl Tryz.func40 zE8_5 rfl #[.int .i64 a0_3] rfl zE8_0 ?_; (with_reducible refine (colonnaderef01_FormatInt.calls k a0_3 t238 _ A5.out).mono ?_); rintro e w10 ⟨rfl, hb⟩; refine ⟨_, rfl, ?_⟩; have n0_ := Aside0.mk (blk_below (g := gb237) (o := .cells #[.int .i64 a0_0, .int .i64 a0_1, .bool false, .int .i64 a0_3, .string a0_4] 25 (0, 0)) zE8_2 hb); have n1_ := Aside0.mk (below_step zE8_1 hb); clear BK237; clear HB; have BK237 := n0_; have HB := n1_; clear n0_ n1_; (try clear hb); (try clear hb2); (try clear hk); (try clear hi); have hcz11_0 : w10.cell? ⟨gb237, 0, none⟩ = some (.int .i64 a0_0) := (blk_cell BK237.out 0).trans rfl; have hcz11_1 : w10.cell? ⟨gb237, 1, none⟩ = some (.int .i64 a0_1) := (blk_cell BK237.out 1).trans rfl; have hcz11_2 : w10.cell? ⟨gb237, 2, none⟩ = some (.bool false) := (blk_cell BK237.out 2).trans rfl; have hcz11_3 : w10.cell? ⟨gb237, 3, none⟩ = some (.int .i64 a0_3) := (blk_cell BK237.out 3).trans rfl; have hcz11_4 : w10.cell? ⟨gb237, 4, none⟩ = some (.string a0_4) := (blk_cell BK237.out 4).trans rfl; have hfz11_0 := blk_frozen BK237.out 0; have hfz11_1 := blk_frozen BK237.out 1; have hfz11_2 := blk_frozen BK237.out 2; have hfz11_3 := blk_frozen BK237.out 3; have hfz11_4 := blk_frozen BK237.out 4))
    go_ret
    exact ⟨by first | rfl | (simp [errW_none, errW_some] <;> rfl) | (simp [*, errW_none, errW_some] <;> rfl), by repeat (first | (with_reducible first | exact HB.out | apply below_alloc | apply pw_below_drewN | apply below_drew1 | refine below_set ?_ GE237.out) | exact HB.out)⟩
   ·rw [if_neg c7] at H
    have c7b0 : (a0_3 == 0) = false := beq_eq_false_iff_ne.mpr c7
    have c7b1 : (a0_3 != 0) = true := bne_iff_ne.mpr c7
    obtain rfl := Option.some.inj H
    go_wp2_with (first | ((with_reducible refine gate_callee (f := 40) rfl ?_); refine goesL_ (some 14) rfl rfl Tryz.func40 zE8_5 rfl #[.int .i64 a0_3] rfl zE8_0 ?_; (with_reducible refine (colonnaderef01_FormatInt.calls k a0_3 t238 _ A5.out).mono ?_); rintro e w14 ⟨rfl, hb⟩; refine ⟨_, rfl, ?_⟩; have n0_ := Aside0.mk (blk_below (g := gb237) (o := .cells #[.int .i64 a0_0, .int .i64 a0_1, .bool false, .int .i64 a0_3, .string a0_4] 25 (0, 0)) zE8_2 hb); have n1_ := Aside0.mk (below_step zE8_1 hb); clear BK237; clear HB; have BK237 := n0_; have HB := n1_; clear n0_ n1_; (try clear hb); (try clear hb2); (try clear hk); (try clear hi); have hcz15_0 : w14.cell? ⟨gb237, 0, none⟩ = some (.int .i64 a0_0) := (blk_cell BK237.out 0).trans rfl; have hcz15_1 : w14.cell? ⟨gb237, 1, none⟩ = some (.int .i64 a0_1) := (blk_cell BK237.out 1).trans rfl; have hcz15_2 : w14.cell? ⟨gb237, 2, none⟩ = some (.bool false) := (blk_cell BK237.out 2).trans rfl; have hcz15_3 : w14.cell? ⟨gb237, 3, none⟩ = some (.int .i64 a0_3) := (blk_cell BK237.out 3).trans rfl; have hcz15_4 : w14.cell? ⟨gb237, 4, none⟩ = some (.string a0_4) := (blk_cell BK237.out 4).trans rfl; have hfz15_0 := blk_frozen BK237.out 0; have hfz15_1 := blk_frozen BK237.out 1; have hfz15_2 := blk_frozen BK237.out 2; have hfz15_3 := blk_frozen BK237.out 3; have hfz15_4 := blk_frozen BK237.out 4))
    go_ret
    exact ⟨by first | rfl | (simp [errW_none, errW_some] <;> rfl) | (simp [*, errW_none, errW_some] <;> rfl), by repeat (first | (with_reducible first | exact HB.out | apply below_alloc | apply pw_below_drewN | apply below_drew1 | refine below_set ?_ GE237.out) | exact HB.out)⟩
  ·rw [if_neg c6] at H
   have c6b0 : (a0_0 == 1) = false := beq_eq_false_iff_ne.mpr c6
   have c6b1 : (a0_0 != 1) = true := bne_iff_ne.mpr c6
   by_cases c16 : a0_0 = 2
   ·rw [if_pos c16] at H
    have c16b0 : (a0_0 == 2) = true := beq_iff_eq.mpr c16
    have c16b1 : (a0_0 != 2) = false := bne_eq_false_iff_eq.mpr c16
    clear c16
    obtain rfl := Option.some.inj H
    go_wp2_with (first | ((with_reducible refine gate_callee (f := 40) rfl ?_); refine goesL_ (some 14) rfl rfl Tryz.func40 zE8_5 rfl #[.int .i64 a0_3] rfl zE8_0 ?_; (with_reducible refine (colonnaderef01_FormatInt.calls k a0_3 t238 _ A5.out).mono ?_); rintro e w19 ⟨rfl, hb⟩; refine ⟨_, rfl, ?_⟩; have n0_ := Aside0.mk (blk_below (g := gb237) (o := .cells #[.int .i64 a0_0, .int .i64 a0_1, .bool false, .int .i64 a0_3, .string a0_4] 25 (0, 0)) zE8_2 hb); have n1_ := Aside0.mk (below_step zE8_1 hb); clear BK237; clear HB; have BK237 := n0_; have HB := n1_; clear n0_ n1_; (try clear hb); (try clear hb2); (try clear hk); (try clear hi); have hcz20_0 : w19.cell? ⟨gb237, 0, none⟩ = some (.int .i64 a0_0) := (blk_cell BK237.out 0).trans rfl; have hcz20_1 : w19.cell? ⟨gb237, 1, none⟩ = some (.int .i64 a0_1) := (blk_cell BK237.out 1).trans rfl; have hcz20_2 : w19.cell? ⟨gb237, 2, none⟩ = some (.bool false) := (blk_cell BK237.out 2).trans rfl; have hcz20_3 : w19.cell? ⟨gb237, 3, none⟩ = some (.int .i64 a0_3) := (blk_cell BK237.out 3).trans rfl; have hcz20_4 : w19.cell? ⟨gb237, 4, none⟩ = some (.string a0_4) := (blk_cell BK237.out 4).trans rfl; have hfz20_0 := blk_frozen BK237.out 0; have hfz20_1 := blk_frozen BK237.out 1; have hfz20_2 := blk_frozen BK237.out 2; have hfz20_3 := blk_frozen BK237.out 3; have hfz20_4 := blk_frozen BK237.out 4))
    go_ret
    exact ⟨by first | rfl | (simp [errW_none, errW_some] <;> rfl) | (simp [*, errW_none, errW_some] <;> rfl), by repeat (first | (with_reducible first | exact HB.out | apply below_alloc | apply pw_below_drewN | apply below_drew1 | refine below_set ?_ GE237.out) | exact HB.out)⟩
   ·rw [if_neg c16] at H
    have c16b0 : (a0_0 == 2) = false := beq_eq_false_iff_ne.mpr c16
    have c16b1 : (a0_0 != 2) = true := bne_iff_ne.mpr c16
    by_cases c21 : a0_0 = 3
    ·rw [if_pos c21] at H
     have c21b0 : (a0_0 == 3) = true := beq_iff_eq.mpr c21
     have c21b1 : (a0_0 != 3) = false := bne_eq_false_iff_eq.mpr c21
     clear c21
     replace H := Option.bind_eq_some_iff.mp H
     obtain ⟨⟨t239, t240⟩, A220, H⟩ := H
     replace H : (if t240 = 0 then (some t239) else (some t238)) = some r := H
     have A22 := Aside0.mk A220
     clear A220
     by_cases c23 : t240 = 0
     ·rw [if_pos c23] at H
      have c23b0 : (t240 == 0) = true := beq_iff_eq.mpr c23
      have c23b1 : (t240 != 0) = false := bne_eq_false_iff_eq.mpr c23
      clear c23
      obtain rfl := Option.some.inj H
      go_wp2_with (first | ((with_reducible refine gate_callee (f := 40) rfl ?_); refine goesL_ (some 14) rfl rfl Tryz.func40 zE8_5 rfl #[.int .i64 a0_3] rfl zE8_0 ?_; (with_reducible refine (colonnaderef01_FormatInt.calls k a0_3 t238 _ A5.out).mono ?_); rintro e w26 ⟨rfl, hb⟩; refine ⟨_, rfl, ?_⟩; have n0_ := Aside0.mk (blk_below (g := gb237) (o := .cells #[.int .i64 a0_0, .int .i64 a0_1, .bool false, .int .i64 a0_3, .string a0_4] 25 (0, 0)) zE8_2 hb); have n1_ := Aside0.mk (below_step zE8_1 hb); clear BK237; clear HB; have BK237 := n0_; have HB := n1_; clear n0_ n1_; (try clear hb); (try clear hb2); (try clear hk); (try clear hi); have hcz27_0 : w26.cell? ⟨gb237, 0, none⟩ = some (.int .i64 a0_0) := (blk_cell BK237.out 0).trans rfl; have hcz27_1 : w26.cell? ⟨gb237, 1, none⟩ = some (.int .i64 a0_1) := (blk_cell BK237.out 1).trans rfl; have hcz27_2 : w26.cell? ⟨gb237, 2, none⟩ = some (.bool false) := (blk_cell BK237.out 2).trans rfl; have hcz27_3 : w26.cell? ⟨gb237, 3, none⟩ = some (.int .i64 a0_3) := (blk_cell BK237.out 3).trans rfl; have hcz27_4 : w26.cell? ⟨gb237, 4, none⟩ = some (.string a0_4) := (blk_cell BK237.out 4).trans rfl; have hfz27_0 := blk_frozen BK237.out 0; have hfz27_1 := blk_frozen BK237.out 1; have hfz27_2 := blk_frozen BK237.out 2; have hfz27_3 := blk_frozen BK237.out 3; have hfz27_4 := blk_frozen BK237.out 4) | ((with_reducible refine gate_callee (f := 41) rfl ?_); refine goesL_ (some 34) rfl rfl Tryz.func41 zE8_5 rfl #[.int .i64 a0_3, .int .i64 a0_1] rfl zE8_0 ?_; (with_reducible refine (colonnaderef01_FormatDec.calls k a0_3 a0_1 t239 t240 _ A22.out).mono ?_); rintro e w28 ⟨rfl, hb⟩; refine ⟨_, rfl, ?_⟩; have n0_ := Aside0.mk (blk_below (g := gb237) (o := .cells #[.int .i64 a0_0, .int .i64 a0_1, .bool false, .int .i64 a0_3, .string a0_4] 25 (0, 0)) zE8_2 hb); have n1_ := Aside0.mk (below_step zE8_1 hb); clear BK237; clear HB; have BK237 := n0_; have HB := n1_; clear n0_ n1_; (try clear hb); (try clear hb2); (try clear hk); (try clear hi)))
      go_ret
      exact ⟨by first | rfl | (simp [errW_none, errW_some] <;> rfl) | (simp [*, errW_none, errW_some] <;> rfl), by repeat (first | (with_reducible first | exact HB.out | apply below_alloc | apply pw_below_drewN | apply below_drew1 | refine below_set ?_ GE237.out) | exact HB.out)⟩
     ·rw [if_neg c23] at H
      have c23b0 : (t240 == 0) = false := beq_eq_false_iff_ne.mpr c23
      have c23b1 : (t240 != 0) = true := bne_iff_ne.mpr c23
      obtain rfl := Option.some.inj H
      go_wp2_with (first | ((with_reducible refine gate_callee (f := 40) rfl ?_); refine goesL_ (some 14) rfl rfl Tryz.func40 zE8_5 rfl #[.int .i64 a0_3] rfl zE8_0 ?_; (with_reducible refine (colonnaderef01_FormatInt.calls k a0_3 t238 _ A5.out).mono ?_); rintro e w31 ⟨rfl, hb⟩; refine ⟨_, rfl, ?_⟩; have n0_ := Aside0.mk (blk_below (g := gb237) (o := .cells #[.int .i64 a0_0, .int .i64 a0_1, .bool false, .int .i64 a0_3, .string a0_4] 25 (0, 0)) zE8_2 hb); have n1_ := Aside0.mk (below_step zE8_1 hb); clear BK237; clear HB; have BK237 := n0_; have HB := n1_; clear n0_ n1_; (try clear hb); (try clear hb2); (try clear hk); (try clear hi); have hcz32_0 : w31.cell? ⟨gb237, 0, none⟩ = some (.int .i64 a0_0) := (blk_cell BK237.out 0).trans rfl; have hcz32_1 : w31.cell? ⟨gb237, 1, none⟩ = some (.int .i64 a0_1) := (blk_cell BK237.out 1).trans rfl; have hcz32_2 : w31.cell? ⟨gb237, 2, none⟩ = some (.bool false) := (blk_cell BK237.out 2).trans rfl; have hcz32_3 : w31.cell? ⟨gb237, 3, none⟩ = some (.int .i64 a0_3) := (blk_cell BK237.out 3).trans rfl; have hcz32_4 : w31.cell? ⟨gb237, 4, none⟩ = some (.string a0_4) := (blk_cell BK237.out 4).trans rfl; have hfz32_0 := blk_frozen BK237.out 0; have hfz32_1 := blk_frozen BK237.out 1; have hfz32_2 := blk_frozen BK237.out 2; have hfz32_3 := blk_frozen BK237.out 3; have hfz32_4 := blk_frozen BK237.out 4) | ((with_reducible refine gate_callee (f := 41) rfl ?_); refine goesL_ (some 34) rfl rfl Tryz.func41 zE8_5 rfl #[.int .i64 a0_3, .int .i64 a0_1] rfl zE8_0 ?_; (with_reducible refine (colonnaderef01_FormatDec.calls k a0_3 a0_1 t239 t240 _ A22.out).mono ?_); rintro e w33 ⟨rfl, hb⟩; refine ⟨_, rfl, ?_⟩; have n0_ := Aside0.mk (blk_below (g := gb237) (o := .cells #[.int .i64 a0_0, .int .i64 a0_1, .bool false, .int .i64 a0_3, .string a0_4] 25 (0, 0)) zE8_2 hb); have n1_ := Aside0.mk (below_step zE8_1 hb); clear BK237; clear HB; have BK237 := n0_; have HB := n1_; clear n0_ n1_; (try clear hb); (try clear hb2); (try clear hk); (try clear hi)))
      go_ret
      exact ⟨by first | rfl | (simp [errW_none, errW_some] <;> rfl) | (simp [*, errW_none, errW_some] <;> rfl), by repeat (first | (with_reducible first | exact HB.out | apply below_alloc | apply pw_below_drewN | apply below_drew1 | refine below_set ?_ GE237.out) | exact HB.out)⟩
    ·rw [if_neg c21] at H
     have c21b0 : (a0_0 == 3) = false := beq_eq_false_iff_ne.mpr c21
     have c21b1 : (a0_0 != 3) = true := bne_iff_ne.mpr c21
     by_cases c34 : a0_0 = 4
     ·rw [if_pos c34] at H
      have c34b0 : (a0_0 == 4) = true := beq_iff_eq.mpr c34
      have c34b1 : (a0_0 != 4) = false := bne_eq_false_iff_eq.mpr c34
      clear c34
      obtain ⟨y241, hy241⟩ : ∃ y_ : List Int, y_ = (([39] : List Int)) := ⟨_, rfl⟩
      replace H : (colonnaderef02_Show.l0 k y241 0 a0_0 a0_1 false a0_3 a0_4) = some r := by first | (rw [hy241]; with_reducible exact H) | (have H2_ := (Option.bind_some _ _).symm.trans H; rw [hy241]; with_reducible exact H2_) | (have H2_ := (Option.bind_some _ _).symm.trans H; with_reducible exact H2_) | with_reducible exact H | (rw [hy241]; exact H) | exact H
      have Ny241 := Aside0.mk hy241
      clear hy241
      have H' := Aside0.mk H
      clear H
      go_wp2_with (first | ((with_reducible refine gate_callee (f := 40) rfl ?_); refine goesL_ (some 14) rfl rfl Tryz.func40 zE8_5 rfl #[.int .i64 a0_3] rfl zE8_0 ?_; (with_reducible refine (colonnaderef01_FormatInt.calls k a0_3 t238 _ A5.out).mono ?_); rintro e w37 ⟨rfl, hb⟩; refine ⟨_, rfl, ?_⟩; have n0_ := Aside0.mk (blk_below (g := gb237) (o := .cells #[.int .i64 a0_0, .int .i64 a0_1, .bool false, .int .i64 a0_3, .string a0_4] 25 (0, 0)) zE8_2 hb); have n1_ := Aside0.mk (below_step zE8_1 hb); clear BK237; clear HB; have BK237 := n0_; have HB := n1_; clear n0_ n1_; (try clear hb); (try clear hb2); (try clear hk); (try clear hi); have hcz38_0 : w37.cell? ⟨gb237, 0, none⟩ = some (.int .i64 a0_0) := (blk_cell BK237.out 0).trans rfl; have hcz38_1 : w37.cell? ⟨gb237, 1, none⟩ = some (.int .i64 a0_1) := (blk_cell BK237.out 1).trans rfl; have hcz38_2 : w37.cell? ⟨gb237, 2, none⟩ = some (.bool false) := (blk_cell BK237.out 2).trans rfl; have hcz38_3 : w37.cell? ⟨gb237, 3, none⟩ = some (.int .i64 a0_3) := (blk_cell BK237.out 3).trans rfl; have hcz38_4 : w37.cell? ⟨gb237, 4, none⟩ = some (.string a0_4) := (blk_cell BK237.out 4).trans rfl; have hfz38_0 := blk_frozen BK237.out 0; have hfz38_1 := blk_frozen BK237.out 1; have hfz38_2 := blk_frozen BK237.out 2; have hfz38_3 := blk_frozen BK237.out 3; have hfz38_4 := blk_frozen BK237.out 4) | ((with_reducible refine gate_dst (N := 43) rfl ?_); refine Kd.R_lit (Kd.int .u8) _ 5 ?hg (N := 43) ?hd (xs := ([39] : List Int)) (inner := [.int .u8 39]) (ok := fun _ => True) (okp := fun _ => True) ?hr ?hp (fun _ hk => hk) trivial (Below.refl _ _) (Nat.le_refl _) (by simp) ?_; (case hd => rfl); (case hg => rfl); (case hr => first | (go_simp; done) | (go_simp; rfl)); (case hp => exact (Reps.one (show Kd.M (Kd.int .u8) _ _ _ 39 [.int .u8 39] from rfl) (Reps.none _ _))); intro v242 w39 ho40 hb hg_ hnew_; clear hg_ hnew_; (first | rw [← Ny241.out] at ho40 | (simp only [Int.reduceToNat] at ho40; rw [← Ny241.out] at ho40)); have n0_ := Aside0.mk (Kd.R_lower ho40 (below_size zE8_1)); have n1_ := Aside0.mk (blk_below (g := gb237) (o := .cells #[.int .i64 a0_0, .int .i64 a0_1, .bool false, .int .i64 a0_3, .string a0_4] 25 (0, 0)) zE8_2 hb); have n2_ := Aside0.mk (below_step zE8_1 hb); clear BK237; clear HB; have HO243 := n0_; have BK237 := n1_; have HB := n2_; clear n0_ n1_ n2_; clear hb ho40))
      go_loopg [6, 7] k (fun kq v6 v7 w' => ∃ (x6_1 : List Int) (x7_1 : Int), v7 = .int .i64 x7_1 ∧ Aside0 (colonnaderef02_Show.l0 kq x6_1 x7_1 a0_0 a0_1 false a0_3 a0_4 = some r) ∧ Aside0 (kq ≤ k) ∧ Aside0 (Kd.R (Kd.int .u8) 5 w' w.heap.size (fun _ => True) v6 x6_1) ∧ Aside0 (w'.heap[gb237]? = some (.cells #[.int .i64 a0_0, .int .i64 a0_1, .bool false, .int .i64 a0_3, .string a0_4] 25 (0, 0))) ∧ Aside0 (Below w.heap.size w w'))
      case atStart => exact ⟨(y241), (0), zE8_4, H', ⟨Nat.le_refl _⟩, ⟨by (with_reducible repeat (first | apply Kd.R_alloc | apply Kd.R_drewN | apply Kd.R_drew)); exact HO243.out⟩, ⟨by (with_reducible repeat (first | refine blk_drewN ?_ _ | refine blk_drew ?_ | refine blk_alloc ?_ _)); exact BK237.out⟩, ⟨by repeat (first | (with_reducible first | exact HB.out | apply below_alloc | apply pw_below_drewN | apply below_drew1 | refine below_set ?_ GE237.out) | exact HB.out)⟩⟩
      case round =>
       clear H'
       (try clear c2); (try clear c6); (try clear c6b0); (try clear c6b1); (try clear c16); (try clear c16b0); (try clear c16b1); (try clear c21); (try clear c21b0); (try clear c21b1); (try clear c34); (try clear c34b0); (try clear c34b1); (try clear hcz4_0); (try clear hcz4_1); (try clear hcz4_2); (try clear hcz4_3); (try clear hcz4_4); (try clear hcz38_0); (try clear hcz38_1); (try clear hcz38_2); (try clear hcz38_3); (try clear hcz38_4); (try clear hcz4_0); (try clear hcz4_1); (try clear hcz4_2); (try clear hcz4_3); (try clear hcz4_4); (try clear hfz4_0); (try clear hfz4_1); (try clear hfz4_2)
       (try clear hfz4_3); (try clear hfz4_4); (try clear hfz38_0); (try clear hfz38_1); (try clear hfz38_2); (try clear hfz38_3); (try clear hfz38_4); (try clear hfz4_0); (try clear hfz4_1); (try clear hfz4_2); (try clear hfz4_3); (try clear hfz4_4)
       obtain ⟨x6_1, x7_1, rfl, HA, HK1, HO_6, BK237, HB⟩ := hrel
       cases gk with
       | zero => exact absurd HA.out (by simp [colonnaderef02_Show.l0])
       | succ k1 =>
        have H := HA.out
        clear HA
        simp only [colonnaderef02_Show.l0] at H
        by_cases c41 : x7_1 < (a0_4.size : Int)
        ·rw [if_pos c41] at H
         have c41b0 : decide (x7_1 < (a0_4.size : Int)) = true := decide_eq_true c41
         clear c41
         by_cases c42 : 0 ≤ x7_1
         ·rw [if_pos c42] at H
          have c42b0 : decide (0 ≤ x7_1) = true := decide_eq_true c42
          clear c42
          by_cases c44 : (bt a0_4 x7_1) = 39
          ·rw [if_pos c44] at H
           have c44b0 : ((bt a0_4 x7_1) == 39) = true := beq_iff_eq.mpr c44
           have c44b1 : ((bt a0_4 x7_1) != 39) = false := bne_eq_false_iff_eq.mpr c44
           clear c44
           by_cases c45 : x6_1.length < 140737488355328
           ·rw [if_pos c45] at H
            have LMc45 := Aside0.mk c45
            clear c45
            obtain ⟨y244, hy244⟩ : ∃ y_ : List Int, y_ = (x6_1 ++ [39]) := ⟨_, rfl⟩
            replace H : (if y244.length < 140737488355328 then (colonnaderef02_Show.l0 k1 (y244 ++ [bt a0_4 x7_1]) (wrap64 (x7_1 + 1)) a0_0 a0_1 false a0_3 a0_4) else (none)) = some r := by first | (rw [hy244]; with_reducible exact H) | (have H2_ := (Option.bind_some _ _).symm.trans H; rw [hy244]; with_reducible exact H2_) | (have H2_ := (Option.bind_some _ _).symm.trans H; with_reducible exact H2_) | with_reducible exact H | (rw [hy244]; exact H) | exact H
            have Ny244 := Aside0.mk hy244
            clear hy244
            by_cases c47 : y244.length < 140737488355328
            ·rw [if_pos c47] at H
             have LMc47 := Aside0.mk c47
             clear c47
             obtain ⟨y247, hy247⟩ : ∃ y_ : List Int, y_ = (y244 ++ [bt a0_4 x7_1]) := ⟨_, rfl⟩
             replace H : (colonnaderef02_Show.l0 k1 y247 (wrap64 (x7_1 + 1)) a0_0 a0_1 false a0_3 a0_4) = some r := by first | (rw [hy247]; with_reducible exact H) | (have H2_ := (Option.bind_some _ _).symm.trans H; rw [hy247]; with_reducible exact H2_) | (have H2_ := (Option.bind_some _ _).symm.trans H; with_reducible exact H2_) | with_reducible exact H | (rw [hy247]; exact H) | exact H
             have Ny247 := Aside0.mk hy247
             clear hy247
             have H' := Aside0.mk H
             clear H
             have hcz48_0 : wr.cell? ⟨gb237, 0, none⟩ = some (.int .i64 a0_0) := (blk_cell BK237.out 0).trans rfl
             have hcz48_1 : wr.cell? ⟨gb237, 1, none⟩ = some (.int .i64 a0_1) := (blk_cell BK237.out 1).trans rfl
             have hcz48_2 : wr.cell? ⟨gb237, 2, none⟩ = some (.bool false) := (blk_cell BK237.out 2).trans rfl
             have hcz48_3 : wr.cell? ⟨gb237, 3, none⟩ = some (.int .i64 a0_3) := (blk_cell BK237.out 3).trans rfl
             have hcz48_4 : wr.cell? ⟨gb237, 4, none⟩ = some (.string a0_4) := (blk_cell BK237.out 4).trans rfl
             have hfz48_0 := blk_frozen BK237.out 0
             have hfz48_1 := blk_frozen BK237.out 1
             have hfz48_2 := blk_frozen BK237.out 2
             have hfz48_3 := blk_frozen BK237.out 3
             have hfz48_4 := blk_frozen BK237.out 4
             have p43 : 0 ≤ (x7_1 : Int) := of_decide_eq_true zE8_6
             have q43 : x7_1 < (a0_4.size : Int) := of_decide_eq_true zE8_6
             have hx43 := bt_at a0_4 x7_1
             replace p43 := eq_true p43
             replace q43 := eq_true q43
             go_wp2_with (first | ((with_reducible refine gate_builtin (b := .append) (xs := #[.tmp 56, .tmp 57]) rfl ?_); at_builtin; refine Kd.R_append (Kd.int .u8) (w0 := w) w.heap.size rfl (.tmp 56) (.tmp 57) 62 5 (.int .u8 0) 1 rfl Tryz.underlying62 info5 rfl (by decide) (by omega) u6 x6_1 39 [.int .u8 39] (fun _ => True) (fun _ => False) rfl rfl ?aP (fun _ hk => hk.elim) ?aF ?aO ?aB ?aS ?aL ?_; (case aP => exact rfl); (case aB => exact zE8_1); (case aF => exact (fun _ _ => trivial)); (case aO => exact zE8_7); (case aS => exact (below_size zE8_1)); (case aL => have := LMc45.out; omega); intro v245 w49 ho hb hg hat; rw [← Ny244.out] at ho; have n0_ := Aside0.mk (blk_grown (g := gb237) (o := .cells #[.int .i64 a0_0, .int .i64 a0_1, .bool false, .int .i64 a0_3, .string a0_4] 25 (0, 0)) zE8_2 hg (Kd.R_ne HO_6.out BK237.out (by decide))); have n1_ := Aside0.mk (hb); have n2_ := Aside0.mk (ho); clear BK237; clear HB; clear HO_6; have BK237 := n0_; have HB := n1_; have HO246 := n2_; clear n0_ n1_ n2_; clear ho hb hg hat; have hcz50_0 : w49.cell? ⟨gb237, 0, none⟩ = some (.int .i64 a0_0) := (blk_cell BK237.out 0).trans rfl; have hcz50_1 : w49.cell? ⟨gb237, 1, none⟩ = some (.int .i64 a0_1) := (blk_cell BK237.out 1).trans rfl; have hcz50_2 : w49.cell? ⟨gb237, 2, none⟩ = some (.bool false) := (blk_cell BK237.out 2).trans rfl; have hcz50_3 : w49.cell? ⟨gb237, 3, none⟩ = some (.int .i64 a0_3) := (blk_cell BK237.out 3).trans rfl; have hcz50_4 : w49.cell? ⟨gb237, 4, none⟩ = some (.string a0_4) := (blk_cell BK237.out 4).trans rfl; have hfz50_0 := blk_frozen BK237.out 0; have hfz50_1 := blk_frozen BK237.out 1; have hfz50_2 := blk_frozen BK237.out 2; have hfz50_3 := blk_frozen BK237.out 3; have hfz50_4 := blk_frozen BK237.out 4; have p46 : 0 ≤ (x7_1 : Int) := of_decide_eq_true zE8_6; have q46 : x7_1 < (a0_4.size : Int) := of_decide_eq_true zE8_6; have hx46 := bt_at a0_4 x7_1; replace p46 := eq_true p46; replace q46 := eq_true q46) | ((with_reducible refine gate_builtin (b := .append) (xs := #[.tmp 59, .tmp 64]) rfl ?_); at_builtin; refine Kd.R_append (Kd.int .u8) (w0 := w) w.heap.size rfl (.tmp 59) (.tmp 64) 62 5 (.int .u8 0) 1 rfl Tryz.underlying62 info5 rfl (by decide) (by omega) v245 y244 (bt a0_4 x7_1) [.int .u8 (bt a0_4 x7_1)] (fun _ => True) (fun _ => False) rfl rfl ?aP (fun _ hk => hk.elim) ?aF ?aO ?aB ?aS ?aL ?_; (case aP => exact rfl); (case aB => exact zE8_1); (case aF => exact (fun _ _ => trivial)); (case aO => exact (by (with_reducible repeat (first | apply Kd.R_alloc | apply Kd.R_drewN | apply Kd.R_drew)); exact HO246.out)); (case aS => exact (below_size zE8_1)); (case aL => have := LMc47.out; omega); intro v248 w51 ho hb hg hat; rw [← Ny247.out] at ho; have n0_ := Aside0.mk (blk_grown (g := gb237) (o := .cells #[.int .i64 a0_0, .int .i64 a0_1, .bool false, .int .i64 a0_3, .string a0_4] 25 (0, 0)) zE8_2 hg (Kd.R_ne HO246.out BK237.out (by decide))); have n1_ := Aside0.mk (hb); have n2_ := Aside0.mk (ho); clear BK237; clear HB; clear HO246; have BK237 := n0_; have HB := n1_; have HO249 := n2_; clear n0_ n1_ n2_; clear ho hb hg hat))
             go_roundg k1
             case measure => have := HK1.out; omega
             case rel => exact ⟨(y247), (wrap64 (x7_1 + 1)), zE8_4, H', ⟨by have := HK1.out; omega⟩, ⟨by (with_reducible repeat (first | apply Kd.R_alloc | apply Kd.R_drewN | apply Kd.R_drew)); exact HO249.out⟩, ⟨by (with_reducible repeat (first | refine blk_drewN ?_ _ | refine blk_drew ?_ | refine blk_alloc ?_ _)); exact BK237.out⟩, ⟨by repeat (first | (with_reducible first | exact HB.out | apply below_alloc | apply pw_below_drewN | apply below_drew1 | refine below_set ?_ GE237.out) | exact HB.out)⟩⟩
            ·rw [if_neg c47] at H
             exact absurd H (by simp)
           ·rw [if_neg c45] at H
            exact absurd H (by simp)
          ·rw [if_neg c44] at H
           have c44b0 : ((bt a0_4 x7_1) == 39) = false := beq_eq_false_iff_ne.mpr c44
           have c44b1 : ((bt a0_4 x7_1) != 39) = true := bne_iff_ne.mpr c44
           by_cases c53 : x6_1.length < 140737488355328
           ·rw [if_pos c53] at H
            have LMc53 := Aside0.mk c53
            clear c53
            obtain ⟨y250, hy250⟩ : ∃ y_ : List Int, y_ = (x6_1 ++ [bt a0_4 x7_1]) := ⟨_, rfl⟩
            replace H : (colonnaderef02_Show.l0 k1 y250 (wrap64 (x7_1 + 1)) a0_0 a0_1 false a0_3 a0_4) = some r := by first | (rw [hy250]; with_reducible exact H) | (have H2_ := (Option.bind_some _ _).symm.trans H; rw [hy250]; with_reducible exact H2_) | (have H2_ := (Option.bind_some _ _).symm.trans H; with_reducible exact H2_) | with_reducible exact H | (rw [hy250]; exact H) | exact H
            have Ny250 := Aside0.mk hy250
            clear hy250
            have H' := Aside0.mk H
            clear H
            have hcz54_0 : wr.cell? ⟨gb237, 0, none⟩ = some (.int .i64 a0_0) := (blk_cell BK237.out 0).trans rfl
            have hcz54_1 : wr.cell? ⟨gb237, 1, none⟩ = some (.int .i64 a0_1) := (blk_cell BK237.out 1).trans rfl
            have hcz54_2 : wr.cell? ⟨gb237, 2, none⟩ = some (.bool false) := (blk_cell BK237.out 2).trans rfl
            have hcz54_3 : wr.cell? ⟨gb237, 3, none⟩ = some (.int .i64 a0_3) := (blk_cell BK237.out 3).trans rfl
            have hcz54_4 : wr.cell? ⟨gb237, 4, none⟩ = some (.string a0_4) := (blk_cell BK237.out 4).trans rfl
            have hfz54_0 := blk_frozen BK237.out 0
            have hfz54_1 := blk_frozen BK237.out 1
            have hfz54_2 := blk_frozen BK237.out 2
            have hfz54_3 := blk_frozen BK237.out 3
            have hfz54_4 := blk_frozen BK237.out 4
            have p43 : 0 ≤ (x7_1 : Int) := of_decide_eq_true zE8_6
            have q43 : x7_1 < (a0_4.size : Int) := of_decide_eq_true zE8_6
            have hx43 := bt_at a0_4 x7_1
            replace p43 := eq_true p43
            replace q43 := eq_true q43
            have p52 : 0 ≤ (x7_1 : Int) := of_decide_eq_true zE8_6
            have q52 : x7_1 < (a0_4.size : Int) := of_decide_eq_true zE8_6
            have hx52 := bt_at a0_4 x7_1
            replace p52 := eq_true p52
            replace q52 := eq_true q52
            go_wp2_with (first | ((with_reducible refine gate_builtin (b := .append) (xs := #[.tmp 59, .tmp 64]) rfl ?_); at_builtin; refine Kd.R_append (Kd.int .u8) (w0 := w) w.heap.size rfl (.tmp 59) (.tmp 64) 62 5 (.int .u8 0) 1 rfl Tryz.underlying62 info5 rfl (by decide) (by omega) u6 x6_1 (bt a0_4 x7_1) [.int .u8 (bt a0_4 x7_1)] (fun _ => True) (fun _ => False) rfl rfl ?aP (fun _ hk => hk.elim) ?aF ?aO ?aB ?aS ?aL ?_; (case aP => exact rfl); (case aB => exact zE8_1); (case aF => exact (fun _ _ => trivial)); (case aO => exact zE8_7); (case aS => exact (below_size zE8_1)); (case aL => have := LMc53.out; omega); intro v251 w55 ho hb hg hat; rw [← Ny250.out] at ho; have n0_ := Aside0.mk (blk_grown (g := gb237) (o := .cells #[.int .i64 a0_0, .int .i64 a0_1, .bool false, .int .i64 a0_3, .string a0_4] 25 (0, 0)) zE8_2 hg (Kd.R_ne HO_6.out BK237.out (by decide))); have n1_ := Aside0.mk (hb); have n2_ := Aside0.mk (ho); clear BK237; clear HB; clear HO_6; have BK237 := n0_; have HB := n1_; have HO252 := n2_; clear n0_ n1_ n2_; clear ho hb hg hat))
            go_roundg k1
            case measure => have := HK1.out; omega
            case rel => exact ⟨(y250), (wrap64 (x7_1 + 1)), zE8_4, H', ⟨by have := HK1.out; omega⟩, ⟨by (with_reducible repeat (first | apply Kd.R_alloc | apply Kd.R_drewN | apply Kd.R_drew)); exact HO252.out⟩, ⟨by (with_reducible repeat (first | refine blk_drewN ?_ _ | refine blk_drew ?_ | refine blk_alloc ?_ _)); exact BK237.out⟩, ⟨by repeat (first | (with_reducible first | exact HB.out | apply below_alloc | apply pw_below_drewN | apply below_drew1 | refine below_set ?_ GE237.out) | exact HB.out)⟩⟩
           ·rw [if_neg c53] at H
            exact absurd H (by simp)
         ·rw [if_neg c42] at H
          exact absurd H (by simp)
        ·rw [if_neg c41] at H
         have c41b0 : decide (x7_1 < (a0_4.size : Int)) = false := decide_eq_false c41
         clear c41
         by_cases c56 : x6_1.length < 140737488355328
         ·rw [if_pos c56] at H
          have LMc56 := Aside0.mk c56
          clear c56
          obtain ⟨y253, hy253⟩ : ∃ y_ : List Int, y_ = (x6_1 ++ [39]) := ⟨_, rfl⟩
          replace H : (some (strOfNums y253)) = some r := by first | (rw [hy253]; with_reducible exact H) | (have H2_ := (Option.bind_some _ _).symm.trans H; rw [hy253]; with_reducible exact H2_) | (have H2_ := (Option.bind_some _ _).symm.trans H; with_reducible exact H2_) | with_reducible exact H | (rw [hy253]; exact H) | exact H
          have Ny253 := Aside0.mk hy253
          clear hy253
          obtain rfl := Option.some.inj H
          have hcz57_0 : wr.cell? ⟨gb237, 0, none⟩ = some (.int .i64 a0_0) := (blk_cell BK237.out 0).trans rfl
          have hcz57_1 : wr.cell? ⟨gb237, 1, none⟩ = some (.int .i64 a0_1) := (blk_cell BK237.out 1).trans rfl
          have hcz57_2 : wr.cell? ⟨gb237, 2, none⟩ = some (.bool false) := (blk_cell BK237.out 2).trans rfl
          have hcz57_3 : wr.cell? ⟨gb237, 3, none⟩ = some (.int .i64 a0_3) := (blk_cell BK237.out 3).trans rfl
          have hcz57_4 : wr.cell? ⟨gb237, 4, none⟩ = some (.string a0_4) := (blk_cell BK237.out 4).trans rfl
          have hfz57_0 := blk_frozen BK237.out 0
          have hfz57_1 := blk_frozen BK237.out 1
          have hfz57_2 := blk_frozen BK237.out 2
          have hfz57_3 := blk_frozen BK237.out 3
          have hfz57_4 := blk_frozen BK237.out 4
          go_wp2_with (first | ((with_reducible refine gate_builtin (b := .append) (xs := #[.tmp 66, .tmp 67]) rfl ?_); at_builtin; refine Kd.R_append (Kd.int .u8) (w0 := w) w.heap.size rfl (.tmp 66) (.tmp 67) 62 5 (.int .u8 0) 1 rfl Tryz.underlying62 info5 rfl (by decide) (by omega) u6 x6_1 39 [.int .u8 39] (fun _ => True) (fun _ => False) rfl rfl ?aP (fun _ hk => hk.elim) ?aF ?aO ?aB ?aS ?aL ?_; (case aP => exact rfl); (case aB => exact zE8_1); (case aF => exact (fun _ _ => trivial)); (case aO => exact zE8_7); (case aS => exact (below_size zE8_1)); (case aL => have := LMc56.out; omega); intro v254 w58 ho hb hg hat; rw [← Ny253.out] at ho; have n0_ := Aside0.mk (blk_grown (g := gb237) (o := .cells #[.int .i64 a0_0, .int .i64 a0_1, .bool false, .int .i64 a0_3, .string a0_4] 25 (0, 0)) zE8_2 hg (Kd.R_ne HO_6.out BK237.out (by decide))); have n1_ := Aside0.mk (hb); have n2_ := Aside0.mk (ho); clear BK237; clear HB; clear HO_6; have BK237 := n0_; have HB := n1_; have HO255 := n2_; clear n0_ n1_ n2_; clear ho hb hg hat; have hcv59 := own_string (P := Tryz.prog) Tryz.underlying62 Tryz.underlying5 Tryz.underlying9 (Kd.own_of_R HO255.out)))
          go_ret
          exact ⟨by first | rfl | (simp [errW_none, errW_some] <;> rfl) | (simp [*, errW_none, errW_some] <;> rfl), by repeat (first | (with_reducible first | exact HB.out | apply below_alloc | apply pw_below_drewN | apply below_drew1 | refine below_set ?_ GE237.out) | exact HB.out)⟩
         ·rw [if_neg c56] at H
          exact absurd H (by simp)
     ·rw [if_neg c34] at H
      have c34b0 : (a0_0 == 4) = false := beq_eq_false_iff_ne.mpr c34
      have c34b1 : (a0_0 != 4) = true := bne_iff_ne.mpr c34
      by_cases c60 : a0_0 = 5
      ·rw [if_pos c60] at H
       have c60b0 : (a0_0 == 5) = true := beq_iff_eq.mpr c60
       have c60b1 : (a0_0 != 5) = false := bne_eq_false_iff_eq.mpr c60
       clear c60
       replace H := Option.bind_eq_some_iff.mp H
       obtain ⟨⟨t256, t257⟩, A610, H⟩ := H
       replace H : (if t257 = 0 then (some t256) else (some t238)) = some r := H
       have A61 := Aside0.mk A610
       clear A610
       by_cases c62 : t257 = 0
       ·rw [if_pos c62] at H
        have c62b0 : (t257 == 0) = true := beq_iff_eq.mpr c62
        have c62b1 : (t257 != 0) = false := bne_eq_false_iff_eq.mpr c62
        clear c62
        obtain rfl := Option.some.inj H
        go_wp2_with (first | ((with_reducible refine gate_callee (f := 40) rfl ?_); refine goesL_ (some 14) rfl rfl Tryz.func40 zE8_5 rfl #[.int .i64 a0_3] rfl zE8_0 ?_; (with_reducible refine (colonnaderef01_FormatInt.calls k a0_3 t238 _ A5.out).mono ?_); rintro e w65 ⟨rfl, hb⟩; refine ⟨_, rfl, ?_⟩; have n0_ := Aside0.mk (blk_below (g := gb237) (o := .cells #[.int .i64 a0_0, .int .i64 a0_1, .bool false, .int .i64 a0_3, .string a0_4] 25 (0, 0)) zE8_2 hb); have n1_ := Aside0.mk (below_step zE8_1 hb); clear BK237; clear HB; have BK237 := n0_; have HB := n1_; clear n0_ n1_; (try clear hb); (try clear hb2); (try clear hk); (try clear hi); have hcz66_0 : w65.cell? ⟨gb237, 0, none⟩ = some (.int .i64 a0_0) := (blk_cell BK237.out 0).trans rfl; have hcz66_1 : w65.cell? ⟨gb237, 1, none⟩ = some (.int .i64 a0_1) := (blk_cell BK237.out 1).trans rfl; have hcz66_2 : w65.cell? ⟨gb237, 2, none⟩ = some (.bool false) := (blk_cell BK237.out 2).trans rfl; have hcz66_3 : w65.cell? ⟨gb237, 3, none⟩ = some (.int .i64 a0_3) := (blk_cell BK237.out 3).trans rfl; have hcz66_4 : w65.cell? ⟨gb237, 4, none⟩ = some (.string a0_4) := (blk_cell BK237.out 4).trans rfl; have hfz66_0 := blk_frozen BK237.out 0; have hfz66_1 := blk_frozen BK237.out 1; have hfz66_2 := blk_frozen BK237.out 2; have hfz66_3 := blk_frozen BK237.out 3; have hfz66_4 := blk_frozen BK237.out 4) | ((with_reducible refine gate_callee (f := 42) rfl ?_); refine goesL_ (some 75) rfl rfl Tryz.func42 zE8_5 rfl #[.int .i64 a0_3] rfl zE8_0 ?_; (with_reducible refine (colonnaderef01_FormatDay.calls k a0_3 t256 t257 _ A61.out).mono ?_); rintro e w67 ⟨rfl, hb⟩; refine ⟨_, rfl, ?_⟩; have n0_ := Aside0.mk (blk_below (g := gb237) (o := .cells #[.int .i64 a0_0, .int .i64 a0_1, .bool false, .int .i64 a0_3, .string a0_4] 25 (0, 0)) zE8_2 hb); have n1_ := Aside0.mk (below_step zE8_1 hb); clear BK237; clear HB; have BK237 := n0_; have HB := n1_; clear n0_ n1_; (try clear hb); (try clear hb2); (try clear hk); (try clear hi)))
        go_ret
        exact ⟨by first | rfl | (simp [errW_none, errW_some] <;> rfl) | (simp [*, errW_none, errW_some] <;> rfl), by repeat (first | (with_reducible first | exact HB.out | apply below_alloc | apply pw_below_drewN | apply below_drew1 | refine below_set ?_ GE237.out) | exact HB.out)⟩
       ·rw [if_neg c62] at H
        have c62b0 : (t257 == 0) = false := beq_eq_false_iff_ne.mpr c62
        have c62b1 : (t257 != 0) = true := bne_iff_ne.mpr c62
        obtain rfl := Option.some.inj H
        go_wp2_with (first | ((with_reducible refine gate_callee (f := 40) rfl ?_); refine goesL_ (some 14) rfl rfl Tryz.func40 zE8_5 rfl #[.int .i64 a0_3] rfl zE8_0 ?_; (with_reducible refine (colonnaderef01_FormatInt.calls k a0_3 t238 _ A5.out).mono ?_); rintro e w70 ⟨rfl, hb⟩; refine ⟨_, rfl, ?_⟩; have n0_ := Aside0.mk (blk_below (g := gb237) (o := .cells #[.int .i64 a0_0, .int .i64 a0_1, .bool false, .int .i64 a0_3, .string a0_4] 25 (0, 0)) zE8_2 hb); have n1_ := Aside0.mk (below_step zE8_1 hb); clear BK237; clear HB; have BK237 := n0_; have HB := n1_; clear n0_ n1_; (try clear hb); (try clear hb2); (try clear hk); (try clear hi); have hcz71_0 : w70.cell? ⟨gb237, 0, none⟩ = some (.int .i64 a0_0) := (blk_cell BK237.out 0).trans rfl; have hcz71_1 : w70.cell? ⟨gb237, 1, none⟩ = some (.int .i64 a0_1) := (blk_cell BK237.out 1).trans rfl; have hcz71_2 : w70.cell? ⟨gb237, 2, none⟩ = some (.bool false) := (blk_cell BK237.out 2).trans rfl; have hcz71_3 : w70.cell? ⟨gb237, 3, none⟩ = some (.int .i64 a0_3) := (blk_cell BK237.out 3).trans rfl; have hcz71_4 : w70.cell? ⟨gb237, 4, none⟩ = some (.string a0_4) := (blk_cell BK237.out 4).trans rfl; have hfz71_0 := blk_frozen BK237.out 0; have hfz71_1 := blk_frozen BK237.out 1; have hfz71_2 := blk_frozen BK237.out 2; have hfz71_3 := blk_frozen BK237.out 3; have hfz71_4 := blk_frozen BK237.out 4) | ((with_reducible refine gate_callee (f := 42) rfl ?_); refine goesL_ (some 75) rfl rfl Tryz.func42 zE8_5 rfl #[.int .i64 a0_3] rfl zE8_0 ?_; (with_reducible refine (colonnaderef01_FormatDay.calls k a0_3 t256 t257 _ A61.out).mono ?_); rintro e w72 ⟨rfl, hb⟩; refine ⟨_, rfl, ?_⟩; have n0_ := Aside0.mk (blk_below (g := gb237) (o := .cells #[.int .i64 a0_0, .int .i64 a0_1, .bool false, .int .i64 a0_3, .string a0_4] 25 (0, 0)) zE8_2 hb); have n1_ := Aside0.mk (below_step zE8_1 hb); clear BK237; clear HB; have BK237 := n0_; have HB := n1_; clear n0_ n1_; (try clear hb); (try clear hb2); (try clear hk); (try clear hi)))
        go_ret
        exact ⟨by first | rfl | (simp [errW_none, errW_some] <;> rfl) | (simp [*, errW_none, errW_some] <;> rfl), by repeat (first | (with_reducible first | exact HB.out | apply below_alloc | apply pw_below_drewN | apply below_drew1 | refine below_set ?_ GE237.out) | exact HB.out)⟩
      ·rw [if_neg c60] at H
       have c60b0 : (a0_0 == 5) = false := beq_eq_false_iff_ne.mpr c60
       have c60b1 : (a0_0 != 5) = true := bne_iff_ne.mpr c60
       obtain rfl := Option.some.inj H
       go_wp2_with (first | ((with_reducible refine gate_callee (f := 40) rfl ?_); refine goesL_ (some 14) rfl rfl Tryz.func40 zE8_5 rfl #[.int .i64 a0_3] rfl zE8_0 ?_; (with_reducible refine (colonnaderef01_FormatInt.calls k a0_3 t238 _ A5.out).mono ?_); rintro e w75 ⟨rfl, hb⟩; refine ⟨_, rfl, ?_⟩; have n0_ := Aside0.mk (blk_below (g := gb237) (o := .cells #[.int .i64 a0_0, .int .i64 a0_1, .bool false, .int .i64 a0_3, .string a0_4] 25 (0, 0)) zE8_2 hb); have n1_ := Aside0.mk (below_step zE8_1 hb); clear BK237; clear HB; have BK237 := n0_; have HB := n1_; clear n0_ n1_; (try clear hb); (try clear hb2); (try clear hk); (try clear hi); have hcz76_0 : w75.cell? ⟨gb237, 0, none⟩ = some (.int .i64 a0_0) := (blk_cell BK237.out 0).trans rfl; have hcz76_1 : w75.cell? ⟨gb237, 1, none⟩ = some (.int .i64 a0_1) := (blk_cell BK237.out 1).trans rfl; have hcz76_2 : w75.cell? ⟨gb237, 2, none⟩ = some (.bool false) := (blk_cell BK237.out 2).trans rfl; have hcz76_3 : w75.cell? ⟨gb237, 3, none⟩ = some (.int .i64 a0_3) := (blk_cell BK237.out 3).trans rfl; have hcz76_4 : w75.cell? ⟨gb237, 4, none⟩ = some (.string a0_4) := (blk_cell BK237.out 4).trans rfl; have hfz76_0 := blk_frozen BK237.out 0; have hfz76_1 := blk_frozen BK237.out 1; have hfz76_2 := blk_frozen BK237.out 2; have hfz76_3 := blk_frozen BK237.out 3; have hfz76_4 := blk_frozen BK237.out 4))
       go_ret
       exact ⟨by first | rfl | (simp [errW_none, errW_some] <;> rfl) | (simp [*, errW_none, errW_some] <;> rfl), by repeat (first | (with_reducible first | exact HB.out | apply below_alloc | apply pw_below_drewN | apply below_drew1 | refine below_set ?_ GE237.out) | exact HB.out)⟩

/-! ### colonnaderef02_OfText: function 21 -/
def colonnaderef02_OfText.f (a0 : ByteArray) : Option (Int × Int × Bool × Int × ByteArray) := some (4, 0, false, 0, a0)
set_option maxHeartbeats 8000000 in
set_option maxRecDepth 100000 in
theorem colonnaderef02_OfText.calls (a0 : ByteArray) (r1 : Int) (r2 : Int) (r3 : Bool) (r4 : Int) (r5 : ByteArray) (w : World) (h : colonnaderef02_OfText.f a0 = some (r1, r2, r3, r4, r5)) :
  Calls Tryz.prog 21 #[.string a0] w fun e w' => e = .returned (.agg #[.int .i64 r1, .int .i64 r2, .bool r3, .int .i64 r4, .string r5]) ∧ Below w.heap.size w w' := by
 have hu25 := Tryz.underlying25
 have hu23 := Tryz.underlying23
 have HB := Aside0.mk (Below.refl w.heap.size w)
 have H : (some (4, 0, false, 0, a0)) = some (r1, r2, r3, r4, r5) := h
 clear h
 simp only [Option.some.injEq, Prod.mk.injEq] at H
 obtain ⟨rfl, rfl, rfl, rfl, rfl⟩ := H
 go_enter Tryz.func21, Tryz.ntmps21
 go_wp2_with (first | ((with_reducible refine gate_dst (N := 2) rfl ?_); refine box_event ?hg (N := 2) ?hd (cs := #[.int .i64 0, .int .i64 0, .bool false, .int .i64 0, .string (⟨#[]⟩ : ByteArray)]) (t := 25) ?hr ?_; (case hd => rfl); (case hg => rfl); (case hr => first | (go_simp; done) | (go_simp; rfl)); intro gb258 hg w2 hbox hb; have n0_ := Aside0.mk (below_step zE8_3 hb); have n1_ := Aside0.mk (hbox); have n2_ := Aside0.mk ((zE8_8 : w.heap.size ≤ gb258)); have n3_ := Aside0.mk ((zE8_8 : w.heap.size ≤ gb258)); clear HB; have HB := n0_; have BK258 := n1_; have GW258 := n2_; have GE258 := n3_; clear n0_ n1_ n2_ n3_; clear hb hbox hg; have hcz3_0 : w2.cell? ⟨gb258, 0, none⟩ = some (.int .i64 0) := (blk_cell BK258.out 0).trans rfl; have hcz3_1 : w2.cell? ⟨gb258, 1, none⟩ = some (.int .i64 0) := (blk_cell BK258.out 1).trans rfl; have hcz3_2 : w2.cell? ⟨gb258, 2, none⟩ = some (.bool false) := (blk_cell BK258.out 2).trans rfl; have hcz3_3 : w2.cell? ⟨gb258, 3, none⟩ = some (.int .i64 0) := (blk_cell BK258.out 3).trans rfl; have hcz3_4 : w2.cell? ⟨gb258, 4, none⟩ = some (.string (⟨#[]⟩ : ByteArray)) := (blk_cell BK258.out 4).trans rfl; have hfz3_0 := blk_frozen BK258.out 0; have hfz3_1 := blk_frozen BK258.out 1; have hfz3_2 := blk_frozen BK258.out 2; have hfz3_3 := blk_frozen BK258.out 3; have hfz3_4 := blk_frozen BK258.out 4))
 refine bodyPost_ret (results_cell_row rfl _ _ gb258 25 #[.int .i64 4, .int .i64 0, .bool false, .int .i64 0, .string a0] (0, 0) _ rfl (by (with_reducible repeat (first | refine blk_drewN ?_ _ | refine blk_drew ?_ | refine blk_alloc ?_ _)); refine blk_put (cs := #[.int .i64 4, .int .i64 0, .bool false, .int .i64 0, .string (⟨#[]⟩ : ByteArray)]) ?_ 4 _ rfl; (with_reducible repeat (first | refine blk_drewN ?_ _ | refine blk_drew ?_ | refine blk_alloc ?_ _)); refine blk_put (cs := #[.int .i64 4, .int .i64 0, .bool false, .int .i64 0, .string (⟨#[]⟩ : ByteArray)]) ?_ 3 _ rfl; (with_reducible repeat (first | refine blk_drewN ?_ _ | refine blk_drew ?_ | refine blk_alloc ?_ _)); refine blk_put (cs := #[.int .i64 4, .int .i64 0, .bool false, .int .i64 0, .string (⟨#[]⟩ : ByteArray)]) ?_ 2 _ rfl; (with_reducible repeat (first | refine blk_drewN ?_ _ | refine blk_drew ?_ | refine blk_alloc ?_ _)); refine blk_put (cs := #[.int .i64 4, .int .i64 0, .bool false, .int .i64 0, .string (⟨#[]⟩ : ByteArray)]) ?_ 1 _ rfl; (with_reducible repeat (first | refine blk_drewN ?_ _ | refine blk_drew ?_ | refine blk_alloc ?_ _)); refine blk_put (cs := #[.int .i64 0, .int .i64 0, .bool false, .int .i64 0, .string (⟨#[]⟩ : ByteArray)]) ?_ 0 _ rfl; (with_reducible repeat (first | refine blk_drewN ?_ _ | refine blk_drew ?_ | refine blk_alloc ?_ _)); exact BK258.out) Tryz.underlying25 rfl zE8_5) rfl ?_
 exact ⟨by first | rfl | (simp [errW_none, errW_some] <;> rfl) | (simp [*, errW_none, errW_some] <;> rfl), by repeat (first | (with_reducible first | exact HB.out | apply below_alloc | apply pw_below_drewN | apply below_drew1 | refine below_set ?_ GE258.out) | exact HB.out)⟩

/-! ### colonnaderef01_Fits: function 47 -/
def colonnaderef01_Fits.f (a0 : Int) : Option (Bool) := if a0 ≥ (-999999999999999999) then (some (decide (a0 ≤ 999999999999999999))) else (some false)
set_option maxHeartbeats 8000000 in
set_option maxRecDepth 100000 in
theorem colonnaderef01_Fits.calls (a0 : Int) (r : Bool) (w : World) (h : colonnaderef01_Fits.f a0 = some r) :
  Calls Tryz.prog 47 #[.int .i64 a0] w fun e w' => e = .returned (.bool r) ∧ Drawn0 w w' := by
 have H : (if a0 ≥ (-999999999999999999) then (some (decide (a0 ≤ 999999999999999999))) else (some false)) = some r := h
 clear h
 by_cases c2 : a0 ≥ (-999999999999999999)
 ·rw [if_pos c2] at H
  have c2b0 : decide ((-999999999999999999) ≤ a0) = true := decide_eq_true c2
  clear c2
  obtain rfl := Option.some.inj H
  go_enter Tryz.func47, Tryz.ntmps47
  go_wp2
  go_ret
  exact ⟨by first | rfl | (simp; done) | (simp [*]; done), by repeat (first | exact Drawn0.refl _ | apply Drawn0.step)⟩
 ·rw [if_neg c2] at H
  have c2b0 : decide ((-999999999999999999) ≤ a0) = false := decide_eq_false c2
  clear c2
  obtain rfl := Option.some.inj H
  go_enter Tryz.func47, Tryz.ntmps47
  go_wp2
  go_ret
  exact ⟨by first | rfl | (simp; done) | (simp [*]; done), by repeat (first | exact Drawn0.refl _ | apply Drawn0.step)⟩

/-! ### colonnaderef01_Pow10: function 48 -/
mutual
def colonnaderef01_Pow10.j0 : Nat → Int → Bool → Option (Int × Int)
 | 0, _, _ => none
 | k + 1, x0, x11 => if x11 = true then (some (0, 1)) else (colonnaderef01_Pow10.l0 k x0 1 0)
def colonnaderef01_Pow10.l0 : Nat → Int → Int → Int → Option (Int × Int)
 | 0, _, _, _ => none
 | k + 1, x0, x4, x5 => if x5 < x0 then (colonnaderef01_Pow10.l0 k x0 (wrap64 (x4 * 10)) (wrap64 (x5 + 1))) else (some (x4, 0))
end
def colonnaderef01_Pow10.f (k : Nat) (a0 : Int) : Option (Int × Int) := if a0 < 0 then (colonnaderef01_Pow10.j0 k a0 true) else (colonnaderef01_Pow10.j0 k a0 (decide (a0 > 18)))
theorem colonnaderef01_Pow10.mono_l : ∀ k, (∀ y0 y1, LeO (colonnaderef01_Pow10.j0 k y0 y1) (colonnaderef01_Pow10.j0 (k + 1) y0 y1)) ∧ (∀ y0 y1 y2, LeO (colonnaderef01_Pow10.l0 k y0 y1 y2) (colonnaderef01_Pow10.l0 (k + 1) y0 y1 y2))
 | 0 => ⟨fun _ _ r h => by simp [colonnaderef01_Pow10.j0] at h, fun _ _ _ r h => by simp [colonnaderef01_Pow10.l0] at h⟩
 | k + 1 => by
  obtain ⟨ih0, ih1⟩ := colonnaderef01_Pow10.mono_l k
  refine ⟨?_, ?_⟩
  ·intro y0 y1
   unfold colonnaderef01_Pow10.j0
   repeat' first
   | (with_reducible exact ih0 _ _)
   | (with_reducible exact ih1 _ _ _)
   | (with_reducible exact LeO.refl _)
   | (with_reducible exact LeO.none _)
   | (with_reducible refine LeO.ite ?_ ?_)
   | (with_reducible refine LeO.bind ?_ (fun _ => ?_))
   | exact ih0 _ _
   | exact ih1 _ _ _
   | exact LeO.none _
   | refine LeO.ite ?_ ?_
   | refine LeO.bind ?_ (fun _ => ?_)
  ·intro y0 y1 y2
   unfold colonnaderef01_Pow10.l0
   repeat' first
   | (with_reducible exact ih0 _ _)
   | (with_reducible exact ih1 _ _ _)
   | (with_reducible exact LeO.refl _)
   | (with_reducible exact LeO.none _)
   | (with_reducible refine LeO.ite ?_ ?_)
   | (with_reducible refine LeO.bind ?_ (fun _ => ?_))
   | exact ih0 _ _
   | exact ih1 _ _ _
   | exact LeO.none _
   | refine LeO.ite ?_ ?_
   | refine LeO.bind ?_ (fun _ => ?_)
theorem colonnaderef01_Pow10.mono : ∀ a0 k, LeO (colonnaderef01_Pow10.f k a0) (colonnaderef01_Pow10.f (k + 1) a0) := by
 intro a0 k
 obtain ⟨ih0, ih1⟩ := colonnaderef01_Pow10.mono_l k
 unfold colonnaderef01_Pow10.f
 repeat' first
   | (with_reducible exact ih0 _ _)
   | (with_reducible exact ih1 _ _ _)
   | (with_reducible exact LeO.refl _)
   | (with_reducible exact LeO.none _)
   | (with_reducible refine LeO.ite ?_ ?_)
   | (with_reducible refine LeO.bind ?_ (fun _ => ?_))
   | exact ih0 _ _
   | exact ih1 _ _ _
   | exact LeO.none _
   | refine LeO.ite ?_ ?_
   | refine LeO.bind ?_ (fun _ => ?_)
set_option maxHeartbeats 8000000 in
set_option maxRecDepth 100000 in
theorem colonnaderef01_Pow10.calls (k : Nat) (a0 : Int) (r1 : Int) (r2 : Int) (w : World) (h : colonnaderef01_Pow10.f k a0 = some (r1, r2)) :
  Calls Tryz.prog 48 #[.int .i64 a0] w fun e w' => e = .returned (.tuple #[.int .i64 r1, .int .i64 r2]) ∧ Drawn0 w w' := by
 have H : (if a0 < 0 then (colonnaderef01_Pow10.j0 k a0 true) else (colonnaderef01_Pow10.j0 k a0 (decide (a0 > 18)))) = some (r1, r2) := h
 clear h
 have HC2 := Aside0.mk H
 clear H
 go_enter Tryz.func48, Tryz.ntmps48
 go_upto_region 1 with (fail)
 go_cut [11] (fun v11 wc => ∃ (kq : Nat) (x11_1 : Bool), v11 = .bool x11_1 ∧ Aside0 (colonnaderef01_Pow10.j0 kq a0 x11_1 = some (r1, r2)) ∧ Aside0 (kq ≤ k) ∧ Drawn0 w wc)
 case first =>
  have H := HC2.out
  clear HC2
  by_cases c3 : a0 < 0
  ·rw [if_pos c3] at H
   have c3b0 : decide (a0 < 0) = true := decide_eq_true c3
   clear c3
   (first | rw [c3b0] | (simp only [i64_w, i32_w]; rw [c3b0]) | skip)
   have H' := Aside0.mk H
   clear H
   go_wp2
   go_meet
   case rel => exact ⟨_, (true), zE8_4, H', ⟨by first | omega | exact Nat.le_refl _⟩, by repeat (first | exact Drawn0.refl _ | apply Drawn0.step)⟩
  ·rw [if_neg c3] at H
   have c3b0 : decide (a0 < 0) = false := decide_eq_false c3
   clear c3
   (first | rw [c3b0] | (simp only [i64_w, i32_w]; rw [c3b0]) | skip)
   have H' := Aside0.mk H
   clear H
   go_wp2
   go_meet
   case rel => exact ⟨_, (decide (a0 > 18)), zE8_4, H', ⟨by first | omega | exact Nat.le_refl _⟩, by repeat (first | exact Drawn0.refl _ | apply Drawn0.step)⟩
 case rest =>
  clear HC2
  obtain ⟨kq, x11_1, rfl, HA, HJ1, ⟨mc1, rfl⟩⟩ := hcut
  cases kq with
  | zero => exact absurd HA.out (by simp [colonnaderef01_Pow10.j0])
  | succ kj1 =>
   have H := HA.out
   clear HA
   simp only [colonnaderef01_Pow10.j0] at H
   by_cases c4 : x11_1 = true
   ·subst c4
    have H1 : (some (0, 1)) = some (r1, r2) := by rw [if_pos rfl] at H; exact H
    clear H
    have H := H1
    clear H1
    simp only [Option.some.injEq, Prod.mk.injEq] at H
    obtain ⟨rfl, rfl⟩ := H
    go_wp2
    go_ret2
    exact ⟨by first | rfl | (simp; done) | (simp [*]; done), by repeat (first | exact Drawn0.refl _ | apply Drawn0.step)⟩
   ·replace c4 := Bool.eq_false_iff.mpr c4
    subst c4
    have H1 : (colonnaderef01_Pow10.l0 kj1 a0 1 0) = some (r1, r2) := by rw [if_neg (show ¬ (false = true) by decide)] at H; exact H
    clear H
    have H := H1
    clear H1
    have H' := Aside0.mk H
    clear H
    go_wp2
    go_loopg [4, 5] kj1 (fun kq v4 v5 w' => ∃ (x4_2 : Int) (x5_2 : Int), v4 = .int .i64 x4_2 ∧ v5 = .int .i64 x5_2 ∧ Aside0 (colonnaderef01_Pow10.l0 kq a0 x4_2 x5_2 = some (r1, r2)) ∧ Aside0 (kq ≤ kj1) ∧ Drawn0 w w')
    case atStart => exact ⟨(1), (0), zE8_4, zE8_4, H', ⟨Nat.le_refl _⟩, by repeat (first | exact Drawn0.refl _ | apply Drawn0.step)⟩
    case round =>
     clear H'
     (try clear c4)
     obtain ⟨x4_2, x5_2, rfl, rfl, HA, HK2, ⟨m2, rfl⟩⟩ := hrel
     cases gk with
     | zero => exact absurd HA.out (by simp [colonnaderef01_Pow10.l0])
     | succ k2 =>
      have H := HA.out
      clear HA
      simp only [colonnaderef01_Pow10.l0] at H
      by_cases c5 : x5_2 < a0
      ·rw [if_pos c5] at H
       have c5b0 : decide (x5_2 < a0) = true := decide_eq_true c5
       clear c5
       have H' := Aside0.mk H
       clear H
       go_wp2
       go_roundg k2
       case measure => have := HJ1.out; have := HK2.out; omega
       case rel => exact ⟨(wrap64 (x4_2 * 10)), (wrap64 (x5_2 + 1)), zE8_4, zE8_4, H', ⟨by have := HJ1.out; have := HK2.out; omega⟩, by repeat (first | exact Drawn0.refl _ | apply Drawn0.step)⟩
      ·rw [if_neg c5] at H
       have c5b0 : decide (x5_2 < a0) = false := decide_eq_false c5
       clear c5
       simp only [Option.some.injEq, Prod.mk.injEq] at H
       obtain ⟨rfl, rfl⟩ := H
       go_wp2
       go_ret2
       exact ⟨by first | rfl | (simp; done) | (simp [*]; done), by repeat (first | exact Drawn0.refl _ | apply Drawn0.step)⟩

/-! ### colonnaderef01_signed: function 51 -/
def colonnaderef01_signed.j0 : Nat → Int → Bool → Option (Int × Int)
 | 0, _, _ => none
 | k + 1, x0, x10 => if x10 = true then (some (wrap64 (IntKind.u64.wrap (-x0)), 0)) else (if x0 > 9223372036854775807 then (some (0, 10)) else (some (wrap64 (x0), 0)))
def colonnaderef01_signed.f (k : Nat) (a0 : Int) (a1 : Bool) : Option (Int × Int) := if a1 = true then (colonnaderef01_signed.j0 k a0 (decide (a0 ≤ 9223372036854775808))) else (colonnaderef01_signed.j0 k a0 false)
theorem colonnaderef01_signed.mono_l : ∀ k, (∀ y0 y1, LeO (colonnaderef01_signed.j0 k y0 y1) (colonnaderef01_signed.j0 (k + 1) y0 y1))
 | 0 => fun _ _ r h => by simp [colonnaderef01_signed.j0] at h
 | k + 1 => by
  have ih0 := colonnaderef01_signed.mono_l k
  ·intro y0 y1
   unfold colonnaderef01_signed.j0
   repeat' first
   | (with_reducible exact ih0 _ _)
   | (with_reducible exact LeO.refl _)
   | (with_reducible exact LeO.none _)
   | (with_reducible refine LeO.ite ?_ ?_)
   | (with_reducible refine LeO.bind ?_ (fun _ => ?_))
   | exact ih0 _ _
   | exact LeO.none _
   | refine LeO.ite ?_ ?_
   | refine LeO.bind ?_ (fun _ => ?_)
theorem colonnaderef01_signed.mono : ∀ a0 a1 k, LeO (colonnaderef01_signed.f k a0 a1) (colonnaderef01_signed.f (k + 1) a0 a1) := by
 intro a0 a1 k
 have ih0 := colonnaderef01_signed.mono_l k
 unfold colonnaderef01_signed.f
 repeat' first
   | (with_reducible exact ih0 _ _)
   | (with_reducible exact LeO.refl _)
   | (with_reducible exact LeO.none _)
   | (with_reducible refine LeO.ite ?_ ?_)
   | (with_reducible refine LeO.bind ?_ (fun _ => ?_))
   | exact ih0 _ _
   | exact LeO.none _
   | refine LeO.ite ?_ ?_
   | refine LeO.bind ?_ (fun _ => ?_)
set_option maxHeartbeats 8000000 in
set_option maxRecDepth 100000 in
theorem colonnaderef01_signed.calls (k : Nat) (a0 : Int) (a1 : Bool) (r1 : Int) (r2 : Int) (w : World) (h : colonnaderef01_signed.f k a0 a1 = some (r1, r2)) :
  Calls Tryz.prog 51 #[.int .u64 a0, .bool a1] w fun e w' => e = .returned (.tuple #[.int .i64 r1, .int .i64 r2]) ∧ Drawn0 w w' := by
 have H : (if a1 = true then (colonnaderef01_signed.j0 k a0 (decide (a0 ≤ 9223372036854775808))) else (colonnaderef01_signed.j0 k a0 false)) = some (r1, r2) := h
 clear h
 have HC3 := Aside0.mk H
 clear H
 go_enter Tryz.func51, Tryz.ntmps51
 go_upto_region 1 with (fail)
 go_cut [10] (fun v10 wc => ∃ (kq : Nat) (x10_2 : Bool), v10 = .bool x10_2 ∧ Aside0 (colonnaderef01_signed.j0 kq a0 x10_2 = some (r1, r2)) ∧ Aside0 (kq ≤ k) ∧ Drawn0 w wc)
 case first =>
  have H := HC3.out
  clear HC3
  by_cases c4 : a1 = true
  ·subst c4
   have H1 : (colonnaderef01_signed.j0 k a0 (decide (a0 ≤ 9223372036854775808))) = some (r1, r2) := by rw [if_pos rfl] at H; exact H
   clear H
   have H := H1
   clear H1
   have H' := Aside0.mk H
   clear H
   go_wp2
   go_meet
   case rel => exact ⟨_, (decide (a0 ≤ 9223372036854775808)), zE8_4, H', ⟨by first | omega | exact Nat.le_refl _⟩, by repeat (first | exact Drawn0.refl _ | apply Drawn0.step)⟩
  ·replace c4 := Bool.eq_false_iff.mpr c4
   subst c4
   have H1 : (colonnaderef01_signed.j0 k a0 false) = some (r1, r2) := by rw [if_neg (show ¬ (false = true) by decide)] at H; exact H
   clear H
   have H := H1
   clear H1
   have H' := Aside0.mk H
   clear H
   go_wp2
   go_meet
   case rel => exact ⟨_, (false), zE8_4, H', ⟨by first | omega | exact Nat.le_refl _⟩, by repeat (first | exact Drawn0.refl _ | apply Drawn0.step)⟩
 case rest =>
  clear HC3
  obtain ⟨kq, x10_2, rfl, HA, HJ2, ⟨mc2, rfl⟩⟩ := hcut
  cases kq with
  | zero => exact absurd HA.out (by simp [colonnaderef01_signed.j0])
  | succ kj2 =>
   have H := HA.out
   clear HA
   simp only [colonnaderef01_signed.j0] at H
   by_cases c5 : x10_2 = true
   ·subst c5
    have H1 : (some (wrap64 (IntKind.u64.wrap (-a0)), 0)) = some (r1, r2) := by rw [if_pos rfl] at H; exact H
    clear H
    have H := H1
    clear H1
    simp only [Option.some.injEq, Prod.mk.injEq] at H
    obtain ⟨rfl, rfl⟩ := H
    go_wp2
    go_ret2
    exact ⟨by first | rfl | (simp; done) | (simp [*]; done), by repeat (first | exact Drawn0.refl _ | apply Drawn0.step)⟩
   ·replace c5 := Bool.eq_false_iff.mpr c5
    subst c5
    have H1 : (if a0 > 9223372036854775807 then (some (0, 10)) else (some (wrap64 (a0), 0))) = some (r1, r2) := by rw [if_neg (show ¬ (false = true) by decide)] at H; exact H
    clear H
    have H := H1
    clear H1
    by_cases c6 : a0 > 9223372036854775807
    ·rw [if_pos c6] at H
     have c6b0 : decide (9223372036854775807 < a0) = true := decide_eq_true c6
     clear c6
     simp only [Option.some.injEq, Prod.mk.injEq] at H
     obtain ⟨rfl, rfl⟩ := H
     go_wp2
     go_ret2
     exact ⟨by first | rfl | (simp; done) | (simp [*]; done), by repeat (first | exact Drawn0.refl _ | apply Drawn0.step)⟩
    ·rw [if_neg c6] at H
     have c6b0 : decide (9223372036854775807 < a0) = false := decide_eq_false c6
     clear c6
     simp only [Option.some.injEq, Prod.mk.injEq] at H
     obtain ⟨rfl, rfl⟩ := H
     go_wp2
     go_ret2
     exact ⟨by first | rfl | (simp; done) | (simp [*]; done), by repeat (first | exact Drawn0.refl _ | apply Drawn0.step)⟩

/-! ### colonnaderef01_product: function 75 -/
def colonnaderef01_product.f (a0 : Int) (a1 : Int) : Option (Int × Int) := some (IntKind.u64.wrap ((IntKind.u64.wrap ((IntKind.u64.wrap ((a0 / 4294967296) * (a1 / 4294967296))) + ((IntKind.u64.wrap ((IntKind.u64.wrap ((a0 / 4294967296) * (Go.bits .and .u64 a1 4294967295))) + ((IntKind.u64.wrap ((Go.bits .and .u64 a0 4294967295) * (Go.bits .and .u64 a1 4294967295))) / 4294967296))) / 4294967296))) + ((IntKind.u64.wrap ((IntKind.u64.wrap ((Go.bits .and .u64 a0 4294967295) * (a1 / 4294967296))) + (Go.bits .and .u64 (IntKind.u64.wrap ((IntKind.u64.wrap ((a0 / 4294967296) * (Go.bits .and .u64 a1 4294967295))) + ((IntKind.u64.wrap ((Go.bits .and .u64 a0 4294967295) * (Go.bits .and .u64 a1 4294967295))) / 4294967296))) 4294967295))) / 4294967296)), Go.bits .or .u64 (IntKind.u64.wrap ((IntKind.u64.wrap ((IntKind.u64.wrap ((Go.bits .and .u64 a0 4294967295) * (a1 / 4294967296))) + (Go.bits .and .u64 (IntKind.u64.wrap ((IntKind.u64.wrap ((a0 / 4294967296) * (Go.bits .and .u64 a1 4294967295))) + ((IntKind.u64.wrap ((Go.bits .and .u64 a0 4294967295) * (Go.bits .and .u64 a1 4294967295))) / 4294967296))) 4294967295))) * 4294967296)) (Go.bits .and .u64 (IntKind.u64.wrap ((Go.bits .and .u64 a0 4294967295) * (Go.bits .and .u64 a1 4294967295))) 4294967295))
set_option maxHeartbeats 8000000 in
set_option maxRecDepth 100000 in
theorem colonnaderef01_product.calls (a0 : Int) (a1 : Int) (r1 : Int) (r2 : Int) (w : World) (h : colonnaderef01_product.f a0 a1 = some (r1, r2)) :
  Calls Tryz.prog 75 #[.int .u64 a0, .int .u64 a1] w fun e w' => e = .returned (.tuple #[.int .u64 r1, .int .u64 r2]) ∧ Drawn0 w w' := by
 have H : (some (IntKind.u64.wrap ((IntKind.u64.wrap ((IntKind.u64.wrap ((a0 / 4294967296) * (a1 / 4294967296))) + ((IntKind.u64.wrap ((IntKind.u64.wrap ((a0 / 4294967296) * (Go.bits .and .u64 a1 4294967295))) + ((IntKind.u64.wrap ((Go.bits .and .u64 a0 4294967295) * (Go.bits .and .u64 a1 4294967295))) / 4294967296))) / 4294967296))) + ((IntKind.u64.wrap ((IntKind.u64.wrap ((Go.bits .and .u64 a0 4294967295) * (a1 / 4294967296))) + (Go.bits .and .u64 (IntKind.u64.wrap ((IntKind.u64.wrap ((a0 / 4294967296) * (Go.bits .and .u64 a1 4294967295))) + ((IntKind.u64.wrap ((Go.bits .and .u64 a0 4294967295) * (Go.bits .and .u64 a1 4294967295))) / 4294967296))) 4294967295))) / 4294967296)), Go.bits .or .u64 (IntKind.u64.wrap ((IntKind.u64.wrap ((IntKind.u64.wrap ((Go.bits .and .u64 a0 4294967295) * (a1 / 4294967296))) + (Go.bits .and .u64 (IntKind.u64.wrap ((IntKind.u64.wrap ((a0 / 4294967296) * (Go.bits .and .u64 a1 4294967295))) + ((IntKind.u64.wrap ((Go.bits .and .u64 a0 4294967295) * (Go.bits .and .u64 a1 4294967295))) / 4294967296))) 4294967295))) * 4294967296)) (Go.bits .and .u64 (IntKind.u64.wrap ((Go.bits .and .u64 a0 4294967295) * (Go.bits .and .u64 a1 4294967295))) 4294967295))) = some (r1, r2) := h
 clear h
 simp only [Option.some.injEq, Prod.mk.injEq] at H
 obtain ⟨rfl, rfl⟩ := H
 go_enter Tryz.func75, Tryz.ntmps75
 go_wp2
 go_ret2
 exact ⟨by first | rfl | (simp; done) | (simp [*]; done), by repeat (first | exact Drawn0.refl _ | apply Drawn0.step)⟩

/-! ### colonnaderef01_Mul: function 49 -/
def colonnaderef01_Mul.f (k : Nat) (a0 : Int) (a1 : Int) : Option (Int × Int) := (colonnaderef01_amount.f a0).bind fun t259 => ((colonnaderef01_amount.f a1).bind fun t260 => ((colonnaderef01_product.f t259 t260).bind fun bt261 => (if bt261.1 = 0 then ((colonnaderef01_signed.f k bt261.2 ((decide (a0 < 0)) != (decide (a1 < 0)))).bind fun bt263 => (some (bt263.1, bt263.2))) else (some (0, 10)))))
theorem colonnaderef01_Mul.mono : ∀ a0 a1 k, LeO (colonnaderef01_Mul.f k a0 a1) (colonnaderef01_Mul.f (k + 1) a0 a1) := by
 intro a0 a1 k
 unfold colonnaderef01_Mul.f
 repeat' first
   | (with_reducible exact colonnaderef01_signed.mono _ _ _)
   | (with_reducible exact LeO.refl _)
   | (with_reducible exact LeO.none _)
   | (with_reducible refine LeO.ite ?_ ?_)
   | (with_reducible refine LeO.bind ?_ (fun _ => ?_))
   | exact colonnaderef01_signed.mono _ _ _
   | exact LeO.none _
   | refine LeO.ite ?_ ?_
   | refine LeO.bind ?_ (fun _ => ?_)
set_option maxHeartbeats 8000000 in
set_option maxRecDepth 100000 in
theorem colonnaderef01_Mul.calls (k : Nat) (a0 : Int) (a1 : Int) (r1 : Int) (r2 : Int) (w : World) (h : colonnaderef01_Mul.f k a0 a1 = some (r1, r2)) :
  Calls Tryz.prog 49 #[.int .i64 a0, .int .i64 a1] w fun e w' => e = .returned (.tuple #[.int .i64 r1, .int .i64 r2]) ∧ Drawn0 w w' := by
 have H : ((colonnaderef01_amount.f a0).bind fun t259 => ((colonnaderef01_amount.f a1).bind fun t260 => ((colonnaderef01_product.f t259 t260).bind fun bt261 => (if bt261.1 = 0 then ((colonnaderef01_signed.f k bt261.2 ((decide (a0 < 0)) != (decide (a1 < 0)))).bind fun bt263 => (some (bt263.1, bt263.2))) else (some (0, 10)))))) = some (r1, r2) := h
 clear h
 replace H := Option.bind_eq_some_iff.mp H
 obtain ⟨t259, A30, H⟩ := H
 replace H : ((colonnaderef01_amount.f a1).bind fun t260 => ((colonnaderef01_product.f t259 t260).bind fun bt261 => (if bt261.1 = 0 then ((colonnaderef01_signed.f k bt261.2 ((decide (a0 < 0)) != (decide (a1 < 0)))).bind fun bt263 => (some (bt263.1, bt263.2))) else (some (0, 10))))) = some (r1, r2) := H
 have A3 := Aside0.mk A30
 clear A30
 replace H := Option.bind_eq_some_iff.mp H
 obtain ⟨t260, A40, H⟩ := H
 replace H : ((colonnaderef01_product.f t259 t260).bind fun bt261 => (if bt261.1 = 0 then ((colonnaderef01_signed.f k bt261.2 ((decide (a0 < 0)) != (decide (a1 < 0)))).bind fun bt263 => (some (bt263.1, bt263.2))) else (some (0, 10)))) = some (r1, r2) := H
 have A4 := Aside0.mk A40
 clear A40
 replace H := Option.bind_eq_some_iff.mp H
 obtain ⟨⟨t261, t262⟩, A50, H⟩ := H
 replace H : (if t261 = 0 then ((colonnaderef01_signed.f k t262 ((decide (a0 < 0)) != (decide (a1 < 0)))).bind fun bt263 => (some (bt263.1, bt263.2))) else (some (0, 10))) = some (r1, r2) := H
 have A5 := Aside0.mk A50
 clear A50
 by_cases c6 : t261 = 0
 ·rw [if_pos c6] at H
  have c6b0 : (t261 == 0) = true := beq_iff_eq.mpr c6
  have c6b1 : (t261 != 0) = false := bne_eq_false_iff_eq.mpr c6
  clear c6
  replace H := Option.bind_eq_some_iff.mp H
  obtain ⟨⟨t263, t264⟩, A70, H⟩ := H
  replace H : (some (t263, t264)) = some (r1, r2) := H
  have A7 := Aside0.mk A70
  clear A70
  simp only [Option.some.injEq, Prod.mk.injEq] at H
  obtain ⟨rfl, rfl⟩ := H
  go_enter Tryz.func49, Tryz.ntmps49
  go_wp2_with (first | ((with_reducible refine gate_callee (f := 50) rfl ?_); refine goesL_ (some 10) rfl rfl Tryz.func50 zE8_5 rfl #[.int .i64 a0] rfl zE8_0 ?_; (with_reducible refine (colonnaderef01_amount.calls a0 t259 _ A3.out).mono ?_); rintro e w' ⟨rfl, ⟨nd, rfl⟩⟩; refine ⟨_, rfl, ?_⟩) | ((with_reducible refine gate_callee (f := 50) rfl ?_); refine goesL_ (some 12) rfl rfl Tryz.func50 zE8_5 rfl #[.int .i64 a1] rfl zE8_0 ?_; (with_reducible refine (colonnaderef01_amount.calls a1 t260 _ A4.out).mono ?_); rintro e w' ⟨rfl, ⟨nd, rfl⟩⟩; refine ⟨_, rfl, ?_⟩) | ((with_reducible refine gate_callee (f := 75) rfl ?_); refine goesL_ (some 13) rfl rfl Tryz.func75 zE8_5 rfl #[.int .u64 t259, .int .u64 t260] rfl zE8_0 ?_; (with_reducible refine (colonnaderef01_product.calls t259 t260 t261 t262 _ A5.out).mono ?_); rintro e w' ⟨rfl, ⟨nd, rfl⟩⟩; refine ⟨_, rfl, ?_⟩) | ((with_reducible refine gate_callee (f := 51) rfl ?_); refine goesL_ (some 24) rfl rfl Tryz.func51 zE8_5 rfl #[.int .u64 t262, .bool ((decide (a0 < 0)) != (decide (a1 < 0)))] rfl zE8_0 ?_; (with_reducible refine (colonnaderef01_signed.calls k t262 ((decide (a0 < 0)) != (decide (a1 < 0))) t263 t264 _ A7.out).mono ?_); rintro e w' ⟨rfl, ⟨nd, rfl⟩⟩; refine ⟨_, rfl, ?_⟩))
  go_ret2
  exact ⟨by first | rfl | (simp; done) | (simp [*]; done), by repeat (first | exact Drawn0.refl _ | apply Drawn0.step)⟩
 ·rw [if_neg c6] at H
  have c6b0 : (t261 == 0) = false := beq_eq_false_iff_ne.mpr c6
  have c6b1 : (t261 != 0) = true := bne_iff_ne.mpr c6
  simp only [Option.some.injEq, Prod.mk.injEq] at H
  obtain ⟨rfl, rfl⟩ := H
  go_enter Tryz.func49, Tryz.ntmps49
  go_wp2_with (first | ((with_reducible refine gate_callee (f := 50) rfl ?_); refine goesL_ (some 10) rfl rfl Tryz.func50 zE8_5 rfl #[.int .i64 a0] rfl zE8_0 ?_; (with_reducible refine (colonnaderef01_amount.calls a0 t259 _ A3.out).mono ?_); rintro e w' ⟨rfl, ⟨nd, rfl⟩⟩; refine ⟨_, rfl, ?_⟩) | ((with_reducible refine gate_callee (f := 50) rfl ?_); refine goesL_ (some 12) rfl rfl Tryz.func50 zE8_5 rfl #[.int .i64 a1] rfl zE8_0 ?_; (with_reducible refine (colonnaderef01_amount.calls a1 t260 _ A4.out).mono ?_); rintro e w' ⟨rfl, ⟨nd, rfl⟩⟩; refine ⟨_, rfl, ?_⟩) | ((with_reducible refine gate_callee (f := 75) rfl ?_); refine goesL_ (some 13) rfl rfl Tryz.func75 zE8_5 rfl #[.int .u64 t259, .int .u64 t260] rfl zE8_0 ?_; (with_reducible refine (colonnaderef01_product.calls t259 t260 t261 t262 _ A5.out).mono ?_); rintro e w' ⟨rfl, ⟨nd, rfl⟩⟩; refine ⟨_, rfl, ?_⟩))
  go_ret2
  exact ⟨by first | rfl | (simp; done) | (simp [*]; done), by repeat (first | exact Drawn0.refl _ | apply Drawn0.step)⟩

/-! ### colonnaderef01_Scale: function 23 -/
def colonnaderef01_Scale.j0 : Nat → Int → Int → Int → Bool → Option (Int × Int)
 | 0, _, _, _, _ => none
 | k + 1, x0, x1, x2, x29 => if x29 = true then (some (0, 1)) else ((colonnaderef01_Fits.f x0).bind fun t265 => (if t265 = true then (if x2 ≥ x1 then ((colonnaderef01_Pow10.f k (wrap64 (x2 - x1))).bind fun bt266 => ((colonnaderef01_Mul.f k x0 bt266.1).bind fun bt268 => (if bt268.2 = 0 then ((colonnaderef01_Fits.f bt268.1).bind fun t270 => (if t270 = true then (some (bt268.1, 0)) else (some (0, 10)))) else (some (0, 10))))) else ((colonnaderef01_Pow10.f k (wrap64 (x1 - x2))).bind fun bt271 => ((colonnaderef01_amount.f x0).bind fun t273 => (if (IntKind.u64.wrap (bt271.1)) = 0 then (none) else (if (IntKind.u64.wrap (2 * (Int.tmod t273 (IntKind.u64.wrap (bt271.1))))) ≥ (IntKind.u64.wrap (bt271.1)) then ((colonnaderef01_signed.f k (IntKind.u64.wrap ((IntKind.u64.wrap (Int.tdiv t273 (IntKind.u64.wrap (bt271.1)))) + 1)) (decide (x0 < 0))).bind fun bt274 => (some (bt274.1, bt274.2))) else ((colonnaderef01_signed.f k (IntKind.u64.wrap (Int.tdiv t273 (IntKind.u64.wrap (bt271.1)))) (decide (x0 < 0))).bind fun bt276 => (some (bt276.1, bt276.2)))))))) else (some (0, 10))))
def colonnaderef01_Scale.f (k : Nat) (a0 : Int) (a1 : Int) (a2 : Int) : Option (Int × Int) := if a1 < 0 then (colonnaderef01_Scale.j0 k a0 a1 a2 true) else (if a1 > 18 then (colonnaderef01_Scale.j0 k a0 a1 a2 true) else (if a2 < 0 then (colonnaderef01_Scale.j0 k a0 a1 a2 true) else (colonnaderef01_Scale.j0 k a0 a1 a2 (decide (a2 > 18)))))
theorem colonnaderef01_Scale.mono_l : ∀ k, (∀ y0 y1 y2 y3, LeO (colonnaderef01_Scale.j0 k y0 y1 y2 y3) (colonnaderef01_Scale.j0 (k + 1) y0 y1 y2 y3))
 | 0 => fun _ _ _ _ r h => by simp [colonnaderef01_Scale.j0] at h
 | k + 1 => by
  have ih0 := colonnaderef01_Scale.mono_l k
  ·intro y0 y1 y2 y3
   unfold colonnaderef01_Scale.j0
   repeat' first
   | (with_reducible exact ih0 _ _ _ _)
   | (with_reducible exact colonnaderef01_Mul.mono _ _ _)
   | (with_reducible exact colonnaderef01_Pow10.mono _ _)
   | (with_reducible exact colonnaderef01_signed.mono _ _ _)
   | (with_reducible exact LeO.refl _)
   | (with_reducible exact LeO.none _)
   | (with_reducible refine LeO.ite ?_ ?_)
   | (with_reducible refine LeO.bind ?_ (fun _ => ?_))
   | exact ih0 _ _ _ _
   | exact colonnaderef01_Mul.mono _ _ _
   | exact colonnaderef01_Pow10.mono _ _
   | exact colonnaderef01_signed.mono _ _ _
   | exact LeO.none _
   | refine LeO.ite ?_ ?_
   | refine LeO.bind ?_ (fun _ => ?_)
theorem colonnaderef01_Scale.mono : ∀ a0 a1 a2 k, LeO (colonnaderef01_Scale.f k a0 a1 a2) (colonnaderef01_Scale.f (k + 1) a0 a1 a2) := by
 intro a0 a1 a2 k
 have ih0 := colonnaderef01_Scale.mono_l k
 unfold colonnaderef01_Scale.f
 repeat' first
   | (with_reducible exact ih0 _ _ _ _)
   | (with_reducible exact colonnaderef01_Mul.mono _ _ _)
   | (with_reducible exact colonnaderef01_Pow10.mono _ _)
   | (with_reducible exact colonnaderef01_signed.mono _ _ _)
   | (with_reducible exact LeO.refl _)
   | (with_reducible exact LeO.none _)
   | (with_reducible refine LeO.ite ?_ ?_)
   | (with_reducible refine LeO.bind ?_ (fun _ => ?_))
   | exact ih0 _ _ _ _
   | exact colonnaderef01_Mul.mono _ _ _
   | exact colonnaderef01_Pow10.mono _ _
   | exact colonnaderef01_signed.mono _ _ _
   | exact LeO.none _
   | refine LeO.ite ?_ ?_
   | refine LeO.bind ?_ (fun _ => ?_)
set_option maxHeartbeats 8000000 in
set_option maxRecDepth 100000 in
theorem colonnaderef01_Scale.calls (k : Nat) (a0 : Int) (a1 : Int) (a2 : Int) (r1 : Int) (r2 : Int) (w : World) (h : colonnaderef01_Scale.f k a0 a1 a2 = some (r1, r2)) :
  Calls Tryz.prog 23 #[.int .i64 a0, .int .i64 a1, .int .i64 a2] w fun e w' => e = .returned (.tuple #[.int .i64 r1, .int .i64 r2]) ∧ Drawn0 w w' := by
 have H : (if a1 < 0 then (colonnaderef01_Scale.j0 k a0 a1 a2 true) else (if a1 > 18 then (colonnaderef01_Scale.j0 k a0 a1 a2 true) else (if a2 < 0 then (colonnaderef01_Scale.j0 k a0 a1 a2 true) else (colonnaderef01_Scale.j0 k a0 a1 a2 (decide (a2 > 18)))))) = some (r1, r2) := h
 clear h
 have HC4 := Aside0.mk H
 clear H
 go_enter Tryz.func23, Tryz.ntmps23
 go_upto_region 1 with (fail)
 go_cut [29] (fun v29 wc => ∃ (kq : Nat) (x29_3 : Bool), v29 = .bool x29_3 ∧ Aside0 (colonnaderef01_Scale.j0 kq a0 a1 a2 x29_3 = some (r1, r2)) ∧ Aside0 (kq ≤ k) ∧ Drawn0 w wc)
 case first =>
  have H := HC4.out
  clear HC4
  by_cases c5 : a1 < 0
  ·rw [if_pos c5] at H
   have c5b0 : decide (a1 < 0) = true := decide_eq_true c5
   clear c5
   (first | rw [c5b0] | (simp only [i64_w, i32_w]; rw [c5b0]) | skip)
   have H' := Aside0.mk H
   clear H
   go_wp2
   go_meet
   case rel => exact ⟨_, (true), zE8_4, H', ⟨by first | omega | exact Nat.le_refl _⟩, by repeat (first | exact Drawn0.refl _ | apply Drawn0.step)⟩
  ·rw [if_neg c5] at H
   have c5b0 : decide (a1 < 0) = false := decide_eq_false c5
   clear c5
   (first | rw [c5b0] | (simp only [i64_w, i32_w]; rw [c5b0]) | skip)
   by_cases c6 : a1 > 18
   ·rw [if_pos c6] at H
    have c6b0 : decide (18 < a1) = true := decide_eq_true c6
    clear c6
    have H' := Aside0.mk H
    clear H
    go_wp2
    go_meet
    case rel => exact ⟨_, (true), zE8_4, H', ⟨by first | omega | exact Nat.le_refl _⟩, by repeat (first | exact Drawn0.refl _ | apply Drawn0.step)⟩
   ·rw [if_neg c6] at H
    have c6b0 : decide (18 < a1) = false := decide_eq_false c6
    clear c6
    by_cases c7 : a2 < 0
    ·rw [if_pos c7] at H
     have c7b0 : decide (a2 < 0) = true := decide_eq_true c7
     clear c7
     have H' := Aside0.mk H
     clear H
     go_wp2
     go_meet
     case rel => exact ⟨_, (true), zE8_4, H', ⟨by first | omega | exact Nat.le_refl _⟩, by repeat (first | exact Drawn0.refl _ | apply Drawn0.step)⟩
    ·rw [if_neg c7] at H
     have c7b0 : decide (a2 < 0) = false := decide_eq_false c7
     clear c7
     have H' := Aside0.mk H
     clear H
     go_wp2
     go_meet
     case rel => exact ⟨_, (decide (a2 > 18)), zE8_4, H', ⟨by first | omega | exact Nat.le_refl _⟩, by repeat (first | exact Drawn0.refl _ | apply Drawn0.step)⟩
 case rest =>
  clear HC4
  obtain ⟨kq, x29_3, rfl, HA, HJ3, ⟨mc3, rfl⟩⟩ := hcut
  cases kq with
  | zero => exact absurd HA.out (by simp [colonnaderef01_Scale.j0])
  | succ kj3 =>
   have H := HA.out
   clear HA
   simp only [colonnaderef01_Scale.j0] at H
   by_cases c8 : x29_3 = true
   ·subst c8
    have H1 : (some (0, 1)) = some (r1, r2) := by rw [if_pos rfl] at H; exact H
    clear H
    have H := H1
    clear H1
    simp only [Option.some.injEq, Prod.mk.injEq] at H
    obtain ⟨rfl, rfl⟩ := H
    go_wp2
    go_ret2
    exact ⟨by first | rfl | (simp; done) | (simp [*]; done), by repeat (first | exact Drawn0.refl _ | apply Drawn0.step)⟩
   ·replace c8 := Bool.eq_false_iff.mpr c8
    subst c8
    have H1 : ((colonnaderef01_Fits.f a0).bind fun t265 => (if t265 = true then (if a2 ≥ a1 then ((colonnaderef01_Pow10.f kj3 (wrap64 (a2 - a1))).bind fun bt266 => ((colonnaderef01_Mul.f kj3 a0 bt266.1).bind fun bt268 => (if bt268.2 = 0 then ((colonnaderef01_Fits.f bt268.1).bind fun t270 => (if t270 = true then (some (bt268.1, 0)) else (some (0, 10)))) else (some (0, 10))))) else ((colonnaderef01_Pow10.f kj3 (wrap64 (a1 - a2))).bind fun bt271 => ((colonnaderef01_amount.f a0).bind fun t273 => (if (IntKind.u64.wrap (bt271.1)) = 0 then (none) else (if (IntKind.u64.wrap (2 * (Int.tmod t273 (IntKind.u64.wrap (bt271.1))))) ≥ (IntKind.u64.wrap (bt271.1)) then ((colonnaderef01_signed.f kj3 (IntKind.u64.wrap ((IntKind.u64.wrap (Int.tdiv t273 (IntKind.u64.wrap (bt271.1)))) + 1)) (decide (a0 < 0))).bind fun bt274 => (some (bt274.1, bt274.2))) else ((colonnaderef01_signed.f kj3 (IntKind.u64.wrap (Int.tdiv t273 (IntKind.u64.wrap (bt271.1)))) (decide (a0 < 0))).bind fun bt276 => (some (bt276.1, bt276.2)))))))) else (some (0, 10)))) = some (r1, r2) := by rw [if_neg (show ¬ (false = true) by decide)] at H; exact H
    clear H
    have H := H1
    clear H1
    replace H := Option.bind_eq_some_iff.mp H
    obtain ⟨t265, A90, H⟩ := H
    replace H : (if t265 = true then (if a2 ≥ a1 then ((colonnaderef01_Pow10.f kj3 (wrap64 (a2 - a1))).bind fun bt266 => ((colonnaderef01_Mul.f kj3 a0 bt266.1).bind fun bt268 => (if bt268.2 = 0 then ((colonnaderef01_Fits.f bt268.1).bind fun t270 => (if t270 = true then (some (bt268.1, 0)) else (some (0, 10)))) else (some (0, 10))))) else ((colonnaderef01_Pow10.f kj3 (wrap64 (a1 - a2))).bind fun bt271 => ((colonnaderef01_amount.f a0).bind fun t273 => (if (IntKind.u64.wrap (bt271.1)) = 0 then (none) else (if (IntKind.u64.wrap (2 * (Int.tmod t273 (IntKind.u64.wrap (bt271.1))))) ≥ (IntKind.u64.wrap (bt271.1)) then ((colonnaderef01_signed.f kj3 (IntKind.u64.wrap ((IntKind.u64.wrap (Int.tdiv t273 (IntKind.u64.wrap (bt271.1)))) + 1)) (decide (a0 < 0))).bind fun bt274 => (some (bt274.1, bt274.2))) else ((colonnaderef01_signed.f kj3 (IntKind.u64.wrap (Int.tdiv t273 (IntKind.u64.wrap (bt271.1)))) (decide (a0 < 0))).bind fun bt276 => (some (bt276.1, bt276.2)))))))) else (some (0, 10))) = some (r1, r2) := H
    have A9 := Aside0.mk A90
    clear A90
    by_cases c10 : t265 = true
    ·subst c10
     have H1 : (if a2 ≥ a1 then ((colonnaderef01_Pow10.f kj3 (wrap64 (a2 - a1))).bind fun bt266 => ((colonnaderef01_Mul.f kj3 a0 bt266.1).bind fun bt268 => (if bt268.2 = 0 then ((colonnaderef01_Fits.f bt268.1).bind fun t270 => (if t270 = true then (some (bt268.1, 0)) else (some (0, 10)))) else (some (0, 10))))) else ((colonnaderef01_Pow10.f kj3 (wrap64 (a1 - a2))).bind fun bt271 => ((colonnaderef01_amount.f a0).bind fun t273 => (if (IntKind.u64.wrap (bt271.1)) = 0 then (none) else (if (IntKind.u64.wrap (2 * (Int.tmod t273 (IntKind.u64.wrap (bt271.1))))) ≥ (IntKind.u64.wrap (bt271.1)) then ((colonnaderef01_signed.f kj3 (IntKind.u64.wrap ((IntKind.u64.wrap (Int.tdiv t273 (IntKind.u64.wrap (bt271.1)))) + 1)) (decide (a0 < 0))).bind fun bt274 => (some (bt274.1, bt274.2))) else ((colonnaderef01_signed.f kj3 (IntKind.u64.wrap (Int.tdiv t273 (IntKind.u64.wrap (bt271.1)))) (decide (a0 < 0))).bind fun bt276 => (some (bt276.1, bt276.2)))))))) = some (r1, r2) := by rw [if_pos rfl] at H; exact H
     clear H
     have H := H1
     clear H1
     by_cases c11 : a2 ≥ a1
     ·rw [if_pos c11] at H
      have c11b0 : decide (a1 ≤ a2) = true := decide_eq_true c11
      clear c11
      replace H := Option.bind_eq_some_iff.mp H
      obtain ⟨⟨t266, t267⟩, A120, H⟩ := H
      replace H : ((colonnaderef01_Mul.f kj3 a0 t266).bind fun bt268 => (if bt268.2 = 0 then ((colonnaderef01_Fits.f bt268.1).bind fun t270 => (if t270 = true then (some (bt268.1, 0)) else (some (0, 10)))) else (some (0, 10)))) = some (r1, r2) := H
      have A12 := Aside0.mk A120
      clear A120
      replace H := Option.bind_eq_some_iff.mp H
      obtain ⟨⟨t268, t269⟩, A130, H⟩ := H
      replace H : (if t269 = 0 then ((colonnaderef01_Fits.f t268).bind fun t270 => (if t270 = true then (some (t268, 0)) else (some (0, 10)))) else (some (0, 10))) = some (r1, r2) := H
      have A13 := Aside0.mk A130
      clear A130
      by_cases c14 : t269 = 0
      ·rw [if_pos c14] at H
       have c14b0 : (t269 == 0) = true := beq_iff_eq.mpr c14
       have c14b1 : (t269 != 0) = false := bne_eq_false_iff_eq.mpr c14
       clear c14
       replace H := Option.bind_eq_some_iff.mp H
       obtain ⟨t270, A150, H⟩ := H
       replace H : (if t270 = true then (some (t268, 0)) else (some (0, 10))) = some (r1, r2) := H
       have A15 := Aside0.mk A150
       clear A150
       by_cases c16 : t270 = true
       ·subst c16
        have H1 : (some (t268, 0)) = some (r1, r2) := by rw [if_pos rfl] at H; exact H
        clear H
        have H := H1
        clear H1
        simp only [Option.some.injEq, Prod.mk.injEq] at H
        obtain ⟨rfl, rfl⟩ := H
        go_wp2_with (first | ((with_reducible refine gate_callee (f := 47) rfl ?_); refine goesL_ (some 31) rfl rfl Tryz.func47 zE8_5 rfl #[.int .i64 a0] rfl zE8_0 ?_; (with_reducible refine (colonnaderef01_Fits.calls a0 true _ A9.out).mono ?_); rintro e w' ⟨rfl, ⟨nd, rfl⟩⟩; refine ⟨_, rfl, ?_⟩) | ((with_reducible refine gate_callee (f := 48) rfl ?_); refine goesL_ (some 40) rfl rfl Tryz.func48 zE8_5 rfl #[.int .i64 (wrap64 (a2 - a1))] rfl zE8_0 ?_; (with_reducible refine (colonnaderef01_Pow10.calls kj3 (wrap64 (a2 - a1)) t266 t267 _ A12.out).mono ?_); rintro e w' ⟨rfl, ⟨nd, rfl⟩⟩; refine ⟨_, rfl, ?_⟩) | ((with_reducible refine gate_callee (f := 49) rfl ?_); refine goesL_ (some 46) rfl rfl Tryz.func49 zE8_5 rfl #[.int .i64 a0, .int .i64 t266] rfl zE8_0 ?_; (with_reducible refine (colonnaderef01_Mul.calls kj3 a0 t266 t268 t269 _ A13.out).mono ?_); rintro e w' ⟨rfl, ⟨nd, rfl⟩⟩; refine ⟨_, rfl, ?_⟩) | (go_at_call 47; (with_reducible refine (colonnaderef01_Fits.calls t268 true _ A15.out).mono ?_); rintro e w' ⟨rfl, ⟨nd, rfl⟩⟩))
        go_ret2
        exact ⟨by first | rfl | (simp; done) | (simp [*]; done), by repeat (first | exact Drawn0.refl _ | apply Drawn0.step)⟩
       ·replace c16 := Bool.eq_false_iff.mpr c16
        subst c16
        have H1 : (some (0, 10)) = some (r1, r2) := by rw [if_neg (show ¬ (false = true) by decide)] at H; exact H
        clear H
        have H := H1
        clear H1
        simp only [Option.some.injEq, Prod.mk.injEq] at H
        obtain ⟨rfl, rfl⟩ := H
        go_wp2_with (first | ((with_reducible refine gate_callee (f := 47) rfl ?_); refine goesL_ (some 31) rfl rfl Tryz.func47 zE8_5 rfl #[.int .i64 a0] rfl zE8_0 ?_; (with_reducible refine (colonnaderef01_Fits.calls a0 true _ A9.out).mono ?_); rintro e w' ⟨rfl, ⟨nd, rfl⟩⟩; refine ⟨_, rfl, ?_⟩) | ((with_reducible refine gate_callee (f := 48) rfl ?_); refine goesL_ (some 40) rfl rfl Tryz.func48 zE8_5 rfl #[.int .i64 (wrap64 (a2 - a1))] rfl zE8_0 ?_; (with_reducible refine (colonnaderef01_Pow10.calls kj3 (wrap64 (a2 - a1)) t266 t267 _ A12.out).mono ?_); rintro e w' ⟨rfl, ⟨nd, rfl⟩⟩; refine ⟨_, rfl, ?_⟩) | ((with_reducible refine gate_callee (f := 49) rfl ?_); refine goesL_ (some 46) rfl rfl Tryz.func49 zE8_5 rfl #[.int .i64 a0, .int .i64 t266] rfl zE8_0 ?_; (with_reducible refine (colonnaderef01_Mul.calls kj3 a0 t266 t268 t269 _ A13.out).mono ?_); rintro e w' ⟨rfl, ⟨nd, rfl⟩⟩; refine ⟨_, rfl, ?_⟩) | (go_at_call 47; (with_reducible refine (colonnaderef01_Fits.calls t268 false _ A15.out).mono ?_); rintro e w' ⟨rfl, ⟨nd, rfl⟩⟩))
        go_ret2
        exact ⟨by first | rfl | (simp; done) | (simp [*]; done), by repeat (first | exact Drawn0.refl _ | apply Drawn0.step)⟩
      ·rw [if_neg c14] at H
       have c14b0 : (t269 == 0) = false := beq_eq_false_iff_ne.mpr c14
       have c14b1 : (t269 != 0) = true := bne_iff_ne.mpr c14
       simp only [Option.some.injEq, Prod.mk.injEq] at H
       obtain ⟨rfl, rfl⟩ := H
       go_wp2_with (first | ((with_reducible refine gate_callee (f := 47) rfl ?_); refine goesL_ (some 31) rfl rfl Tryz.func47 zE8_5 rfl #[.int .i64 a0] rfl zE8_0 ?_; (with_reducible refine (colonnaderef01_Fits.calls a0 true _ A9.out).mono ?_); rintro e w' ⟨rfl, ⟨nd, rfl⟩⟩; refine ⟨_, rfl, ?_⟩) | ((with_reducible refine gate_callee (f := 48) rfl ?_); refine goesL_ (some 40) rfl rfl Tryz.func48 zE8_5 rfl #[.int .i64 (wrap64 (a2 - a1))] rfl zE8_0 ?_; (with_reducible refine (colonnaderef01_Pow10.calls kj3 (wrap64 (a2 - a1)) t266 t267 _ A12.out).mono ?_); rintro e w' ⟨rfl, ⟨nd, rfl⟩⟩; refine ⟨_, rfl, ?_⟩) | ((with_reducible refine gate_callee (f := 49) rfl ?_); refine goesL_ (some 46) rfl rfl Tryz.func49 zE8_5 rfl #[.int .i64 a0, .int .i64 t266] rfl zE8_0 ?_; (with_reducible refine (colonnaderef01_Mul.calls kj3 a0 t266 t268 t269 _ A13.out).mono ?_); rintro e w' ⟨rfl, ⟨nd, rfl⟩⟩; refine ⟨_, rfl, ?_⟩))
       go_ret2
       exact ⟨by first | rfl | (simp; done) | (simp [*]; done), by repeat (first | exact Drawn0.refl _ | apply Drawn0.step)⟩
     ·rw [if_neg c11] at H
      have c11b0 : decide (a1 ≤ a2) = false := decide_eq_false c11
      clear c11
      replace H := Option.bind_eq_some_iff.mp H
      obtain ⟨⟨t271, t272⟩, A170, H⟩ := H
      replace H : ((colonnaderef01_amount.f a0).bind fun t273 => (if (IntKind.u64.wrap (t271)) = 0 then (none) else (if (IntKind.u64.wrap (2 * (Int.tmod t273 (IntKind.u64.wrap (t271))))) ≥ (IntKind.u64.wrap (t271)) then ((colonnaderef01_signed.f kj3 (IntKind.u64.wrap ((IntKind.u64.wrap (Int.tdiv t273 (IntKind.u64.wrap (t271)))) + 1)) (decide (a0 < 0))).bind fun bt274 => (some (bt274.1, bt274.2))) else ((colonnaderef01_signed.f kj3 (IntKind.u64.wrap (Int.tdiv t273 (IntKind.u64.wrap (t271)))) (decide (a0 < 0))).bind fun bt276 => (some (bt276.1, bt276.2)))))) = some (r1, r2) := H
      have A17 := Aside0.mk A170
      clear A170
      replace H := Option.bind_eq_some_iff.mp H
      obtain ⟨t273, A180, H⟩ := H
      replace H : (if (IntKind.u64.wrap (t271)) = 0 then (none) else (if (IntKind.u64.wrap (2 * (Int.tmod t273 (IntKind.u64.wrap (t271))))) ≥ (IntKind.u64.wrap (t271)) then ((colonnaderef01_signed.f kj3 (IntKind.u64.wrap ((IntKind.u64.wrap (Int.tdiv t273 (IntKind.u64.wrap (t271)))) + 1)) (decide (a0 < 0))).bind fun bt274 => (some (bt274.1, bt274.2))) else ((colonnaderef01_signed.f kj3 (IntKind.u64.wrap (Int.tdiv t273 (IntKind.u64.wrap (t271)))) (decide (a0 < 0))).bind fun bt276 => (some (bt276.1, bt276.2))))) = some (r1, r2) := H
      have A18 := Aside0.mk A180
      clear A180
      by_cases c19 : (IntKind.u64.wrap (t271)) = 0
      ·rw [if_pos c19] at H
       exact absurd H (by simp)
      ·rw [if_neg c19] at H
       have c19b0 : ((IntKind.u64.wrap (t271)) == 0) = false := beq_eq_false_iff_ne.mpr c19
       have c19b1 : ((IntKind.u64.wrap (t271)) != 0) = true := bne_iff_ne.mpr c19
       by_cases c20 : (IntKind.u64.wrap (2 * (Int.tmod t273 (IntKind.u64.wrap (t271))))) ≥ (IntKind.u64.wrap (t271))
       ·rw [if_pos c20] at H
        have c20b0 : decide ((IntKind.u64.wrap (t271)) ≤ (IntKind.u64.wrap (2 * (Int.tmod t273 (IntKind.u64.wrap (t271)))))) = true := decide_eq_true c20
        clear c20
        replace H := Option.bind_eq_some_iff.mp H
        obtain ⟨⟨t274, t275⟩, A210, H⟩ := H
        replace H : (some (t274, t275)) = some (r1, r2) := H
        have A21 := Aside0.mk A210
        clear A210
        simp only [Option.some.injEq, Prod.mk.injEq] at H
        obtain ⟨rfl, rfl⟩ := H
        go_wp2_with (first | ((with_reducible refine gate_callee (f := 47) rfl ?_); refine goesL_ (some 31) rfl rfl Tryz.func47 zE8_5 rfl #[.int .i64 a0] rfl zE8_0 ?_; (with_reducible refine (colonnaderef01_Fits.calls a0 true _ A9.out).mono ?_); rintro e w' ⟨rfl, ⟨nd, rfl⟩⟩; refine ⟨_, rfl, ?_⟩) | ((with_reducible refine gate_callee (f := 48) rfl ?_); refine goesL_ (some 61) rfl rfl Tryz.func48 zE8_5 rfl #[.int .i64 (wrap64 (a1 - a2))] rfl zE8_0 ?_; (with_reducible refine (colonnaderef01_Pow10.calls kj3 (wrap64 (a1 - a2)) t271 t272 _ A17.out).mono ?_); rintro e w' ⟨rfl, ⟨nd, rfl⟩⟩; refine ⟨_, rfl, ?_⟩) | ((with_reducible refine gate_callee (f := 50) rfl ?_); refine goesL_ (some 65) rfl rfl Tryz.func50 zE8_5 rfl #[.int .i64 a0] rfl zE8_0 ?_; (with_reducible refine (colonnaderef01_amount.calls a0 t273 _ A18.out).mono ?_); rintro e w' ⟨rfl, ⟨nd, rfl⟩⟩; refine ⟨_, rfl, ?_⟩) | ((with_reducible refine gate_callee (f := 51) rfl ?_); refine goesL_ (some 83) rfl rfl Tryz.func51 zE8_5 rfl #[.int .u64 (IntKind.u64.wrap ((IntKind.u64.wrap (Int.tdiv t273 (IntKind.u64.wrap (t271)))) + 1)), .bool (decide (a0 < 0))] rfl zE8_0 ?_; (with_reducible refine (colonnaderef01_signed.calls kj3 (IntKind.u64.wrap ((IntKind.u64.wrap (Int.tdiv t273 (IntKind.u64.wrap (t271)))) + 1)) (decide (a0 < 0)) t274 t275 _ A21.out).mono ?_); rintro e w' ⟨rfl, ⟨nd, rfl⟩⟩; refine ⟨_, rfl, ?_⟩))
        go_ret2
        exact ⟨by first | rfl | (simp; done) | (simp [*]; done), by repeat (first | exact Drawn0.refl _ | apply Drawn0.step)⟩
       ·rw [if_neg c20] at H
        have c20b0 : decide ((IntKind.u64.wrap (t271)) ≤ (IntKind.u64.wrap (2 * (Int.tmod t273 (IntKind.u64.wrap (t271)))))) = false := decide_eq_false c20
        clear c20
        replace H := Option.bind_eq_some_iff.mp H
        obtain ⟨⟨t276, t277⟩, A220, H⟩ := H
        replace H : (some (t276, t277)) = some (r1, r2) := H
        have A22 := Aside0.mk A220
        clear A220
        simp only [Option.some.injEq, Prod.mk.injEq] at H
        obtain ⟨rfl, rfl⟩ := H
        go_wp2_with (first | ((with_reducible refine gate_callee (f := 47) rfl ?_); refine goesL_ (some 31) rfl rfl Tryz.func47 zE8_5 rfl #[.int .i64 a0] rfl zE8_0 ?_; (with_reducible refine (colonnaderef01_Fits.calls a0 true _ A9.out).mono ?_); rintro e w' ⟨rfl, ⟨nd, rfl⟩⟩; refine ⟨_, rfl, ?_⟩) | ((with_reducible refine gate_callee (f := 48) rfl ?_); refine goesL_ (some 61) rfl rfl Tryz.func48 zE8_5 rfl #[.int .i64 (wrap64 (a1 - a2))] rfl zE8_0 ?_; (with_reducible refine (colonnaderef01_Pow10.calls kj3 (wrap64 (a1 - a2)) t271 t272 _ A17.out).mono ?_); rintro e w' ⟨rfl, ⟨nd, rfl⟩⟩; refine ⟨_, rfl, ?_⟩) | ((with_reducible refine gate_callee (f := 50) rfl ?_); refine goesL_ (some 65) rfl rfl Tryz.func50 zE8_5 rfl #[.int .i64 a0] rfl zE8_0 ?_; (with_reducible refine (colonnaderef01_amount.calls a0 t273 _ A18.out).mono ?_); rintro e w' ⟨rfl, ⟨nd, rfl⟩⟩; refine ⟨_, rfl, ?_⟩) | ((with_reducible refine gate_callee (f := 51) rfl ?_); refine goesL_ (some 83) rfl rfl Tryz.func51 zE8_5 rfl #[.int .u64 (IntKind.u64.wrap (Int.tdiv t273 (IntKind.u64.wrap (t271)))), .bool (decide (a0 < 0))] rfl zE8_0 ?_; (with_reducible refine (colonnaderef01_signed.calls kj3 (IntKind.u64.wrap (Int.tdiv t273 (IntKind.u64.wrap (t271)))) (decide (a0 < 0)) t276 t277 _ A22.out).mono ?_); rintro e w' ⟨rfl, ⟨nd, rfl⟩⟩; refine ⟨_, rfl, ?_⟩))
        go_ret2
        exact ⟨by first | rfl | (simp; done) | (simp [*]; done), by repeat (first | exact Drawn0.refl _ | apply Drawn0.step)⟩
    ·replace c10 := Bool.eq_false_iff.mpr c10
     subst c10
     have H1 : (some (0, 10)) = some (r1, r2) := by rw [if_neg (show ¬ (false = true) by decide)] at H; exact H
     clear H
     have H := H1
     clear H1
     simp only [Option.some.injEq, Prod.mk.injEq] at H
     obtain ⟨rfl, rfl⟩ := H
     go_wp2_with (first | ((with_reducible refine gate_callee (f := 47) rfl ?_); refine goesL_ (some 31) rfl rfl Tryz.func47 zE8_5 rfl #[.int .i64 a0] rfl zE8_0 ?_; (with_reducible refine (colonnaderef01_Fits.calls a0 false _ A9.out).mono ?_); rintro e w' ⟨rfl, ⟨nd, rfl⟩⟩; refine ⟨_, rfl, ?_⟩))
     go_ret2
     exact ⟨by first | rfl | (simp; done) | (simp [*]; done), by repeat (first | exact Drawn0.refl _ | apply Drawn0.step)⟩

/-! ### colonnaderef02_upper: function 43, by hand -/
def colonnaderef02_upper.up (c : UInt8) : UInt8 := if 97 ≤ c.toNat ∧ c.toNat ≤ 122 then c - 32 else c
def colonnaderef02_upper.curU (l : List UInt8) (i : Nat) : List UInt8 := (l.take i).map colonnaderef02_upper.up ++ l.drop i
structure colonnaderef02_upper.BL (W : World) (N : Nat) (l : List UInt8) : Prop where
 at_ : ∀ j (hj : j < l.length), W.cell? ⟨N, j, none⟩ = some (.int .u8 (l[j].toNat : Int))
 fr : ∀ j, j < l.length → W.frozen? ⟨N, j, none⟩ = false
theorem colonnaderef02_upper.curU_len (l : List UInt8) (i : Nat) : (colonnaderef02_upper.curU l i).length = l.length := by
 unfold colonnaderef02_upper.curU; rw [List.length_append, List.length_map, ← List.length_append, List.take_append_drop]
theorem colonnaderef02_upper.curU_0 (l : List UInt8) : colonnaderef02_upper.curU l 0 = l := by unfold colonnaderef02_upper.curU; simp
theorem colonnaderef02_upper.curU_all (l : List UInt8) : colonnaderef02_upper.curU l l.length = l.map colonnaderef02_upper.up := by unfold colonnaderef02_upper.curU; simp
theorem colonnaderef02_upper.curU_at (l : List UInt8) (i : Nat) (h : i < l.length) : (colonnaderef02_upper.curU l i)[i]'(by rw [colonnaderef02_upper.curU_len]; exact h) = l[i] := by
 unfold colonnaderef02_upper.curU
 rw [List.getElem_append_right (by simp; omega)]
 simp [Nat.min_eq_left (Nat.le_of_lt h)]
theorem colonnaderef02_upper.curU_succ (l : List UInt8) (i : Nat) (h : i < l.length) : colonnaderef02_upper.curU l (i + 1) = (colonnaderef02_upper.curU l i).set i (colonnaderef02_upper.up l[i]) := by
 unfold colonnaderef02_upper.curU
 have hn : ((l.take i).map colonnaderef02_upper.up).length = i := by rw [List.length_map, List.length_take]; omega
 rw [List.set_append, if_neg (by rw [hn]; omega), hn, Nat.sub_self, List.take_succ_eq_append_getElem h, List.map_append, List.drop_eq_getElem_cons h]
 simp
 try (rw [List.drop_eq_getElem_cons h]; rfl)
theorem colonnaderef02_upper.BL.set {W : World} {N : Nat} {l : List UInt8} (h : colonnaderef02_upper.BL W N l) (i : Nat) (hi : i < l.length) (c : UInt8) : colonnaderef02_upper.BL (W.setCell ⟨N, i, none⟩ (.int .u8 (c.toNat : Int))) N (l.set i c) := by
 refine ⟨fun j hj => ?_, fun j hj => ?_⟩
 ·have hj' : j < l.length := by simpa using hj
  by_cases e : i = j
  ·subst e
   rw [World.cell?_setCell_same _ _ _ (h.at_ i hi), List.getElem_set_self]
  ·rw [World.cell?_setCell_other _ _ _ _ (by intro z; exact e (Addr.mk.inj z).2.1), h.at_ j hj', List.getElem_set_ne e]
 ·rw [World.frozen?_setCell]
  exact h.fr j (by simpa using hj)
theorem colonnaderef02_upper.BL.of_new (w : World) (s : ByteArray) (cap : Nat) (e : TypeId) : colonnaderef02_upper.BL (w.alloc (.cells (bytesRow s cap) e ((bytesRow s cap).size, (bytesRow s cap).size + 1))) w.heap.size s.data.toList := by
 have hl : s.data.toList.length = s.data.size := Array.length_toList
 refine ⟨fun j hj => ?_, fun j hj => ?_⟩
 ·rw [World.cell?_alloc_mark, bytesRow_at s cap j (by omega)]
  simp
 ·rw [World.frozen?_alloc_mark]
  have : ¬ (bytesRow s cap).size ≤ j := fun z => by
   have h1 := bytesRow_at s cap j (by omega)
   rw [Array.getElem?_eq_none z] at h1
   cases h1
  rw [decide_eq_false this]
  rfl
theorem colonnaderef02_upper.BL.drew {W : World} {N : Nat} {l : List UInt8} (h : colonnaderef02_upper.BL W N l) (m : Nat) : colonnaderef02_upper.BL (W.drewN m) N l := ⟨h.at_, h.fr⟩
def colonnaderef02_upper.f (a0 : ByteArray) : Option (ByteArray) := if a0.size ≤ 1000000000000000000 then some ⟨(a0.data.toList.map colonnaderef02_upper.up).toArray⟩ else none
set_option maxHeartbeats 8000000 in
set_option maxRecDepth 100000 in
theorem colonnaderef02_upper.walk (a0 : ByteArray) (w : World) (hsz : a0.size ≤ 1000000000000000000) :
  Calls Tryz.prog 43 #[.string a0] w fun e w' => e = .returned (.string ⟨(a0.data.toList.map colonnaderef02_upper.up).toArray⟩) ∧ Below w.heap.size w w' := by
 have kc := fun (W : World) => run_bytes_of_string (P := Tryz.prog) W 9 62 5 a0 Tryz.underlying9 Tryz.underlying62 Tryz.underlying5
 have hL : a0.data.toList.length = a0.size := Array.length_toList
 have b0 := colonnaderef02_upper.BL.of_new w.drew a0 (grownCap w a0.size 0 5) 5
 have g0 : Below w.heap.size w (w.drew.alloc (.cells (bytesRow a0 (grownCap w a0.size 0 5)) 5 ((bytesRow a0 (grownCap w a0.size 0 5)).size, (bytesRow a0 (grownCap w a0.size 0 5)).size + 1))) := by
  apply below_alloc; apply below_drew1; exact Below.refl _ _
 have hN : w.heap.size ≤ w.heap.size := Nat.le_refl _
 have B0 := Aside0.mk b0
 have G0 := Aside0.mk g0
 clear b0 g0
 go_enter Tryz.func43, Tryz.ntmps43
 go_wp2
 have HB := G0
 go_loopg [4] (a0.size + 1) (fun kq v4 w' => ∃ (i : Nat), v4 = .int .i64 (i : Int) ∧ Aside0 (i + kq = a0.size + 1) ∧ Aside0 (i ≤ a0.size) ∧ Aside0 (colonnaderef02_upper.BL w' w.heap.size (colonnaderef02_upper.curU a0.data.toList i)) ∧ Aside0 (Below w.heap.size w w'))
 case atStart => exact ⟨0, rfl, ⟨by omega⟩, ⟨by omega⟩, ⟨by rw [colonnaderef02_upper.curU_0]; exact B0.out⟩, ⟨HB.out⟩⟩
 case round =>
  clear B0 G0 HB
  obtain ⟨i, rfl, HI, HJ, HL, HW⟩ := hrel
  cases gk with
  | zero => exact absurd HI.out (by have := HJ.out; omega)
  | succ k1 =>
   by_cases c : i < a0.size
   ·have hi : i < a0.data.toList.length := by omega
    have hi2 : i < (colonnaderef02_upper.curU a0.data.toList i).length := by rw [colonnaderef02_upper.curU_len]; exact hi
    have c0 : decide ((i : Int) < (a0.size : Int)) = true := decide_eq_true (by omega)
    have p4 : (0 ≤ (i : Int)) = True := eq_true (by omega)
    have q4 : ((i : Int) < (a0.size : Int)) = True := eq_true (by omega)
    have q5 : (i < a0.size) = True := eq_true c
    have hc := HL.out.at_ i hi2
    rw [colonnaderef02_upper.curU_at _ _ hi] at hc
    have hf := HL.out.fr i hi2
    have hset := HL.out.set i hi2 (colonnaderef02_upper.up a0.data.toList[i])
    rw [← colonnaderef02_upper.curU_succ _ _ hi] at hset
    have hskip : colonnaderef02_upper.up a0.data.toList[i] = a0.data.toList[i] → colonnaderef02_upper.curU a0.data.toList (i + 1) = colonnaderef02_upper.curU a0.data.toList i := fun z => by
     rw [colonnaderef02_upper.curU_succ _ _ hi, z]
     have := colonnaderef02_upper.curU_at a0.data.toList i hi
     rw [← this, List.set_getElem_self]
    have hw : wrap64 ((i : Int) + 1) = ((i + 1 : Nat) : Int) := by unfold wrap64; omega
    generalize a0.data.toList[i] = ch at hc hset hskip
    have hch := UInt8.toNat_lt ch
    by_cases d1 : 97 ≤ ch.toNat
    ·have d1b : decide (97 ≤ (ch.toNat : Int)) = true := decide_eq_true (by omega)
     by_cases d2 : ch.toNat ≤ 122
     ·have d2b : decide ((ch.toNat : Int) ≤ 122) = true := decide_eq_true (by omega)
      have hv : IntKind.u8.wrap ((ch.toNat : Int) - 32) = (((colonnaderef02_upper.up ch).toNat : Nat) : Int) := by
       unfold colonnaderef02_upper.up
       rw [if_pos ⟨d1, d2⟩, UInt8.toNat_sub_of_le _ _ (by rw [UInt8.le_iff_toNat_le]; have : (32 : UInt8).toNat = 32 := rfl; omega), IntKind.wrap_u8]
       have : (32 : UInt8).toNat = 32 := rfl
       omega
      have HS := Aside0.mk hset
      clear hset hskip
      go_wp2
      go_roundg k1
      case measure => have := HI.out; have := HJ.out; omega
      case rel => exact ⟨i + 1, by first | (rw [hw]) | rfl | (simp; done) | (simp [*]; done), ⟨by have := HI.out; omega⟩, ⟨by omega⟩, ⟨HS.out⟩, ⟨by first | exact HW.out.setCell (Nat.le_refl _) _ | exact below_set HW.out (Nat.le_refl _)⟩⟩
     ·have d2b : decide ((ch.toNat : Int) ≤ 122) = false := decide_eq_false (by omega)
      have HS := Aside0.mk (hskip (by unfold colonnaderef02_upper.up; rw [if_neg (by omega)]))
      clear hset hskip
      go_wp2
      go_roundg k1
      case measure => have := HI.out; have := HJ.out; omega
      case rel => exact ⟨i + 1, by first | (rw [hw]) | rfl | (simp; done) | (simp [*]; done), ⟨by have := HI.out; omega⟩, ⟨by omega⟩, ⟨by rw [HS.out]; exact ⟨HL.out.at_, HL.out.fr⟩⟩, ⟨by repeat (first | exact HW.out | apply below_drew1 | apply pw_below_drewN)⟩⟩
    ·have d1b : decide (97 ≤ (ch.toNat : Int)) = false := decide_eq_false (by omega)
     have HS := Aside0.mk (hskip (by unfold colonnaderef02_upper.up; rw [if_neg (by omega)]))
     clear hset hskip
     go_wp2
     go_roundg k1
     case measure => have := HI.out; have := HJ.out; omega
     case rel => exact ⟨i + 1, by first | (rw [hw]) | rfl | (simp; done) | (simp [*]; done), ⟨by have := HI.out; omega⟩, ⟨by omega⟩, ⟨by rw [HS.out]; exact ⟨HL.out.at_, HL.out.fr⟩⟩, ⟨by repeat (first | exact HW.out | apply below_drew1 | apply pw_below_drewN)⟩⟩
   ·have c0 : decide ((i : Int) < (a0.size : Int)) = false := decide_eq_false (by omega)
    have e : i = a0.data.toList.length := by have := HJ.out; omega
    have HQ := HL.out
    rw [e, colonnaderef02_upper.curU_all] at HQ
    have hm : (a0.data.toList.map colonnaderef02_upper.up).length = a0.size := by rw [List.length_map]; exact hL
    have kb := fun (n : Nat) => run_convert_bytes_back (P := Tryz.prog) (wr.drewN n) 62 9 5 ⟨w.heap.size, 0, none⟩ (grownCap w a0.size 0 5) (a0.data.toList.map colonnaderef02_upper.up) Tryz.underlying62 Tryz.underlying5 Tryz.underlying9 (fun j hj => by
     rw [show (⟨w.heap.size, 0, none⟩ : Addr).add j = ⟨w.heap.size, j, none⟩ from by unfold Addr.add; simp; intro z; exact z.symm]
     exact HQ.at_ j hj)
    rw [hm] at kb
    have kb0 := kb 0
    have kb1 := kb 1
    have kb0' : (convert 62 9 (.slice (some ⟨w.heap.size, 0, none⟩) a0.size (grownCap w a0.size 0 5))).run Tryz.prog wr = .ok (.string ⟨(a0.data.toList.map colonnaderef02_upper.up).toArray⟩) wr := kb0
    have kb1' : (convert 62 9 (.slice (some ⟨w.heap.size, 0, none⟩) a0.size (grownCap w a0.size 0 5))).run Tryz.prog wr.drew = .ok (.string ⟨(a0.data.toList.map colonnaderef02_upper.up).toArray⟩) wr.drew := kb1
    clear kb0 kb1
    go_wp2
    go_ret
    exact ⟨rfl, by repeat (first | exact HW.out | apply below_drew1 | apply pw_below_drewN)⟩
theorem colonnaderef02_upper.calls (a0 : ByteArray) (r : ByteArray) (w : World) (h : colonnaderef02_upper.f a0 = some r) :
  Calls Tryz.prog 43 #[.string a0] w fun e w' => e = .returned (.string r) ∧ Below w.heap.size w w' := by
 unfold colonnaderef02_upper.f at h
 by_cases hs : a0.size ≤ 1000000000000000000
 ·rw [if_pos hs] at h
  obtain rfl := Option.some.inj h
  exact colonnaderef02_upper.walk a0 w hs
 ·rw [if_neg hs] at h; exact absurd h (by simp)


end Go.Proofs.YtjpgjggbanpegaaGreatDoor.E
