/- PRINTED BY A PROGRAM OF THIS SESSION (px.py, over the kit's print): Lean functions with the answers of Go functions of the given program, and proofs that the Go code comes to these answers; each under the conditions that its theorem states. -/
import Derived.Test.YtmeopdjdjmjngaaGreatDoorI0
import Derived.Test.YtmeopdjdjmjngaaGreatDoorI2
import Derived.Test.YtmeopdjdjmjngaaGreatDoorI3
namespace Go.Proofs.YtmeopdjdjmjngaaGreatDoor.I
open Go.RowKit Go.Proofs.YtmeopdjdjmjngaaGreatDoorW.PrintWords Go.Proofs.YtmeopdjdjmjngaaGreatDoorW.PrintLast Go.Proofs.YtmeopdjdjmjngaaGreatDoorW.PrintMore
attribute [local go_sem] max2_int min2_int max_two min_two max_three min_three max_four min_four   -- for this text's walks alone
set_option linter.unusedVariables false
set_option linter.unusedSimpArgs false

/-! ### schema_Fit: function 10 -/
mutual
def schema_Fit.l0 : Nat → List (S41) → List (S41) → Int → Int → ByteArray → List (S36) → Option ((List (S41)) × Int)
  | 0, _, _, _, _, _, _ => none
  | k + 1, x6, x18, x19, x20, x164000, x164001 => if x20 < x19 then (if 0 ≤ x20 then (if x20 < (x18.length : Int) then (if x20 < (x164001.length : Int) then (if (rd_T41 x18 x20).f1 = true then (schema_Fit.j1 k x6 x18 x19 x20 ((rd_T36 x164001 x20).f2) x164000 x164001 ((rd_T41 x18 x20).f0.f0) ((rd_T41 x18 x20).f0.f1) ((rd_T41 x18 x20).f1) ((rd_T41 x18 x20).f2) ((rd_T41 x18 x20).f3) ((rd_T36 x164001 x20).f0) ((rd_T36 x164001 x20).f1.f0) ((rd_T36 x164001 x20).f1.f1) ((rd_T36 x164001 x20).f2)) else (schema_Fit.j1 k x6 x18 x19 x20 false x164000 x164001 ((rd_T41 x18 x20).f0.f0) ((rd_T41 x18 x20).f0.f1) ((rd_T41 x18 x20).f1) ((rd_T41 x18 x20).f2) ((rd_T41 x18 x20).f3) ((rd_T36 x164001 x20).f0) ((rd_T36 x164001 x20).f1.f0) ((rd_T36 x164001 x20).f1.f1) ((rd_T36 x164001 x20).f2))) else (none)) else (none)) else (none)) else (some (x6, 0))
def schema_Fit.j1 : Nat → List (S41) → List (S41) → Int → Int → Bool → ByteArray → List (S36) → Int → Int → Bool → Int → ByteArray → ByteArray → Int → Int → Bool → Option ((List (S41)) × Int)
  | 0, _, _, _, _, _, _, _, _, _, _, _, _, _, _, _, _ => none
  | k + 1, x6, x18, x19, x20, x30, x164000, x164001, x166000, x166001, x166002, x166003, x166004, x168000, x168001, x168002, x168003 => if x30 = true then (some (([] : List (S41)), 112)) else (if x166002 = true then ((value_None.f x168001 x168002).bind fun bt168 => (if x6.length < 2932031007402 then (schema_Fit.l0 k (x6 ++ [(⟨(⟨bt168.1, bt168.2.1⟩ : S34), bt168.2.2.1, bt168.2.2.2.1, bt168.2.2.2.2⟩ : S41)]) x18 x19 (wrap64 (x20 + 1)) x164000 x164001) else (none))) else ((value_Alike.f x166000 x166001 x168001 x168002).bind fun t176 => (if t176 = true then ((value_Cast.f k x166000 x166001 x166002 x166003 x166004 x168001 x168002).bind fun bt177 => (if bt177.2.2.2.2.2 = 0 then (if x6.length < 2932031007402 then (schema_Fit.l0 k (x6 ++ [(⟨(⟨bt177.1, bt177.2.1⟩ : S34), bt177.2.2.1, bt177.2.2.2.1, bt177.2.2.2.2.1⟩ : S41)]) x18 x19 (wrap64 (x20 + 1)) x164000 x164001) else (none)) else (some (([] : List (S41)), bt177.2.2.2.2.2)))) else (some (([] : List (S41)), 21)))))
end
def schema_Fit.f (k : Nat) (a0_0 : ByteArray) (l0_1 : List (S36)) (l1 : List (S41)) : Option ((List (S41)) × Int) := if (l1.length : Int) = (l0_1.length : Int) then (schema_Fit.l0 k ([] : List (S41)) l1 (l1.length : Int) 0 a0_0 l0_1) else (some (([] : List (S41)), 113))
theorem schema_Fit.mono_l : ∀ k, (∀ y0 y1 y2 y3 y4 y5, LeO (schema_Fit.l0 k y0 y1 y2 y3 y4 y5) (schema_Fit.l0 (k + 1) y0 y1 y2 y3 y4 y5)) ∧ (∀ y0 y1 y2 y3 y4 y5 y6 y7 y8 y9 y10 y11 y12 y13 y14 y15, LeO (schema_Fit.j1 k y0 y1 y2 y3 y4 y5 y6 y7 y8 y9 y10 y11 y12 y13 y14 y15) (schema_Fit.j1 (k + 1) y0 y1 y2 y3 y4 y5 y6 y7 y8 y9 y10 y11 y12 y13 y14 y15))
  | 0 => ⟨fun _ _ _ _ _ _ r h => by simp [schema_Fit.l0] at h, fun _ _ _ _ _ _ _ _ _ _ _ _ _ _ _ _ r h => by simp [schema_Fit.j1] at h⟩
  | k + 1 => by
    obtain ⟨ih0, ih1⟩ := schema_Fit.mono_l k
    refine ⟨?_, ?_⟩
    · intro y0 y1 y2 y3 y4 y5
      unfold schema_Fit.l0
      repeat' first
      | (with_reducible exact ih0 _ _ _ _ _ _)
      | (with_reducible exact ih1 _ _ _ _ _ _ _ _ _ _ _ _ _ _ _ _)
      | (with_reducible exact value_Cast.mono _ _ _ _ _ _ _ _)
      | (with_reducible exact LeO.refl _)
      | (with_reducible exact LeO.none _)
      | (with_reducible refine LeO.ite ?_ ?_)
      | (with_reducible refine LeO.bind ?_ (fun _ => ?_))
      | exact ih0 _ _ _ _ _ _
      | exact ih1 _ _ _ _ _ _ _ _ _ _ _ _ _ _ _ _
      | exact value_Cast.mono _ _ _ _ _ _ _ _
      | exact LeO.none _
      | refine LeO.ite ?_ ?_
      | refine LeO.bind ?_ (fun _ => ?_)
    · intro y0 y1 y2 y3 y4 y5 y6 y7 y8 y9 y10 y11 y12 y13 y14 y15
      unfold schema_Fit.j1
      repeat' first
      | (with_reducible exact ih0 _ _ _ _ _ _)
      | (with_reducible exact ih1 _ _ _ _ _ _ _ _ _ _ _ _ _ _ _ _)
      | (with_reducible exact value_Cast.mono _ _ _ _ _ _ _ _)
      | (with_reducible exact LeO.refl _)
      | (with_reducible exact LeO.none _)
      | (with_reducible refine LeO.ite ?_ ?_)
      | (with_reducible refine LeO.bind ?_ (fun _ => ?_))
      | exact ih0 _ _ _ _ _ _
      | exact ih1 _ _ _ _ _ _ _ _ _ _ _ _ _ _ _ _
      | exact value_Cast.mono _ _ _ _ _ _ _ _
      | exact LeO.none _
      | refine LeO.ite ?_ ?_
      | refine LeO.bind ?_ (fun _ => ?_)
theorem schema_Fit.mono : ∀ a0 a1 a2 k, LeO (schema_Fit.f k a0 a1 a2) (schema_Fit.f (k + 1) a0 a1 a2) := by
  intro a0 a1 a2 k
  obtain ⟨ih0, ih1⟩ := schema_Fit.mono_l k
  unfold schema_Fit.f
  repeat' first
      | (with_reducible exact ih0 _ _ _ _ _ _)
      | (with_reducible exact ih1 _ _ _ _ _ _ _ _ _ _ _ _ _ _ _ _)
      | (with_reducible exact value_Cast.mono _ _ _ _ _ _ _ _)
      | (with_reducible exact LeO.refl _)
      | (with_reducible exact LeO.none _)
      | (with_reducible refine LeO.ite ?_ ?_)
      | (with_reducible refine LeO.bind ?_ (fun _ => ?_))
      | exact ih0 _ _ _ _ _ _
      | exact ih1 _ _ _ _ _ _ _ _ _ _ _ _ _ _ _ _
      | exact value_Cast.mono _ _ _ _ _ _ _ _
      | exact LeO.none _
      | refine LeO.ite ?_ ?_
      | refine LeO.bind ?_ (fun _ => ?_)
set_option maxHeartbeats 8000000 in
set_option maxRecDepth 100000 in
theorem schema_Fit.calls (k : Nat) (a0_0 : ByteArray) (A0_1 : Option Addr) (c0_1 : Nat) (l0_1 : List (S36)) (A1 : Option Addr) (c1 : Nat) (l1 : List (S41)) (r1 : List (S41)) (r2 : Int) (w : World) (hr0_1 : Kd.C k36 w A0_1 l0_1.length l0_1) (hc0_1 : l0_1.length ≤ c0_1) (hr1 : Kd.C k41 w A1 l1.length l1) (hc1 : l1.length ≤ c1) (h : schema_Fit.f k a0_0 l0_1 l1 = some (r1, r2)) :
    Calls Tryz.prog 10 #[.agg #[.string a0_0, .slice A0_1 l0_1.length c0_1], .slice A1 l1.length c1] w fun e w' => ∃ v0_ : Value, e = .returned (.tuple #[v0_, .int .i64 r2]) ∧ Kd.R k41 41 w' w.heap.size (fun _ => True) v0_ r1 ∧ Below w.heap.size w w' := by
  have hu24 := Tryz.underlying24
  have hu41 := Tryz.underlying41
  have hu36 := Tryz.underlying36
  have hu34 := Tryz.underlying34
  have HR0_1 := Aside0.mk hr0_1
  have HC0_1 := Aside0.mk hc0_1
  clear hr0_1 hc0_1
  have HR1 := Aside0.mk hr1
  have HC1 := Aside0.mk hc1
  clear hr1 hc1
  have HB := Aside0.mk (Below.refl w.heap.size w)
  have H : (if (l1.length : Int) = (l0_1.length : Int) then (schema_Fit.l0 k ([] : List (S41)) l1 (l1.length : Int) 0 a0_0 l0_1) else (some (([] : List (S41)), 113))) = some (r1, r2) := h
  clear h
  by_cases c3 : (l1.length : Int) = (l0_1.length : Int)
  · rw [if_pos c3] at H
    have c3b0 : ((l1.length : Int) == (l0_1.length : Int)) = true := beq_iff_eq.mpr c3
    have c3b1 : ((l1.length : Int) != (l0_1.length : Int)) = false := bne_eq_false_iff_eq.mpr c3
    have c3b2 : (l1.length == l0_1.length) = true := by first | simpa using c3 | (simp at c3 ⊢; omega)
    clear c3
    have H' := Aside0.mk H
    clear H
    go_enter Tryz.func10, Tryz.ntmps10
    go_wp2_with (first | ((with_reducible refine gate_dst (N := 2) rfl ?_); refine box_event ?hg (N := 2) ?hd (cs := #[.string a0_0, .slice A0_1 l0_1.length c0_1]) (t := 24) ?hr ?_; (case hd => rfl); (case hg => rfl); (case hr => first | (go_simp; done) | (go_simp; rfl)); intro gb163 hg w4 hbox hb; have n0_ := Aside0.mk (below_step (by repeat (first | (with_reducible first | exact HB.out | apply below_alloc | apply pw_below_drewN | apply below_drew1) | exact HB.out)) hb); have n1_ := Aside0.mk (hbox); have n2_ := Aside0.mk ((by rw [hg]; exact (below_size (by repeat (first | (with_reducible first | exact HB.out | apply below_alloc | apply pw_below_drewN | apply below_drew1) | exact HB.out))) : w.heap.size ≤ gb163)); have n3_ := Aside0.mk ((by rw [hg]; exact (below_size (by repeat (first | (with_reducible first | exact HB.out | apply below_alloc | apply pw_below_drewN | apply below_drew1) | exact HB.out))) : w.heap.size ≤ gb163)); clear HB; have HB := n0_; have BK163 := n1_; have GW163 := n2_; have GE163 := n3_; clear n0_ n1_ n2_ n3_; clear hb hbox hg; have hcz5_0 : w4.cell? ⟨gb163, 0, none⟩ = some (.string a0_0) := (blk_cell BK163.out 0).trans rfl; have hcz5_1 : w4.cell? ⟨gb163, 1, none⟩ = some (.slice A0_1 l0_1.length c0_1) := (blk_cell BK163.out 1).trans rfl; have hfz5_0 := blk_frozen BK163.out 0; have hfz5_1 := blk_frozen BK163.out 1))
    go_loopg [6, 20] k (fun kq v6 v20 w' => ∃ (x6_1 : List (S41)) (x20_1 : Int), v20 = .int .i64 x20_1 ∧ Aside0 (schema_Fit.l0 kq x6_1 l1 (l1.length : Int) x20_1 a0_0 l0_1 = some (r1, r2)) ∧ Aside0 (kq ≤ k) ∧ Aside0 (Kd.R k41 41 w' w.heap.size (fun _ => True) v6 x6_1) ∧ Aside0 (w'.heap[gb163]? = some (.cells #[.string a0_0, (.slice A0_1 l0_1.length c0_1)] 24 (0, 0))) ∧ Aside0 (Below w.heap.size w w'))
    case atStart => exact ⟨(([] : List (S41))), (0), (by first | rfl | (simp; done) | (simp [*]; done)), H', ⟨Nat.le_refl _⟩, ⟨by first | exact Kd.R_nil _ _ _ _ _ | exact Kd.N_nil _ _ _ _ _ | exact Kd.V_nil _ _ _ _ _ | exact Kd.Q_nil _ _ _ _ _ | exact Kd.S_nil _ _ _ _ _⟩, ⟨by (with_reducible repeat (first | refine blk_drewN ?_ _ | refine blk_drew ?_ | refine blk_alloc ?_ _)); exact BK163.out⟩, ⟨by repeat (first | (with_reducible first | exact HB.out | apply below_alloc | apply pw_below_drewN | apply below_drew1 | refine below_set ?_ GE163.out) | exact HB.out)⟩⟩
    case round =>
      clear H'
      try clear c1
      try clear p2
      try clear c3
      try clear c3b0
      try clear c3b1
      try clear c3b2
      try clear hcz5_0
      try clear hcz5_1
      try clear hfz5_0
      try clear hfz5_1
      obtain ⟨x6_1, x20_1, rfl, HA, HK1, HO_6, BK163, HB⟩ := hrel
      cases gk with
      | zero => exact absurd HA.out (by simp [schema_Fit.l0])
      | succ k1 =>
        have H := HA.out
        clear HA
        simp only [schema_Fit.l0] at H
        by_cases c6 : x20_1 < (l1.length : Int)
        · rw [if_pos c6] at H
          have c6b0 : decide (x20_1 < (l1.length : Int)) = true := decide_eq_true c6
          clear c6
          by_cases c7 : 0 ≤ x20_1
          · rw [if_pos c7] at H
            have c7b0 : decide (0 ≤ x20_1) = true := decide_eq_true c7
            clear c7
            by_cases c8 : x20_1 < (l1.length : Int)
            · rw [if_pos c8] at H
              have c8b0 : decide (x20_1 < (l1.length : Int)) = true := decide_eq_true c8
              clear c8
              by_cases c9 : x20_1 < (l0_1.length : Int)
              · rw [if_pos c9] at H
                have c9b0 : decide (x20_1 < (l0_1.length : Int)) = true := decide_eq_true c9
                clear c9
                have HC10 := Aside0.mk H
                clear H
                have p164 : 0 ≤ (x20_1 : Int) := of_decide_eq_true (by first | (with_reducible assumption) | assumption)
                have q164 : x20_1 < (l1.length : Int) := of_decide_eq_true (by first | (with_reducible assumption) | assumption)
                obtain ⟨ad164, e164, hx164_0, hx164_1, hx164_2, hx164_3, hx164_4⟩ := at_T41 HR1.out x20_1 p164 q164
                cases e164
                replace hx164_0 := (HB.out.cell (World.block_lt_of_cell? w _ hx164_0)).trans hx164_0
                replace hx164_1 := (HB.out.cell (World.block_lt_of_cell? w _ hx164_1)).trans hx164_1
                replace hx164_2 := (HB.out.cell (World.block_lt_of_cell? w _ hx164_2)).trans hx164_2
                replace hx164_3 := (HB.out.cell (World.block_lt_of_cell? w _ hx164_3)).trans hx164_3
                replace hx164_4 := (HB.out.cell (World.block_lt_of_cell? w _ hx164_4)).trans hx164_4
                replace p164 := eq_true p164
                replace q164 := eq_true q164
                go_upto_region 8 with (first | ((with_reducible refine gate_dst (N := 8) rfl ?_); refine box_event ?hg (N := 8) ?hd (cs := #[.int .i64 0, .int .i64 0, .bool false, .int .i64 0, .string (⟨#[]⟩ : ByteArray)]) (t := 41) ?hr ?_; (case hd => rfl); (case hg => rfl); (case hr => first | (go_simp; done) | (go_simp; rfl)); intro gb165 hg w11 hbox hb; have n0_ := Aside0.mk (Kd.R_below (Kd.R_elderB (by (with_reducible repeat (first | apply Kd.R_alloc | apply Kd.R_drewN | apply Kd.R_drew)); exact HO_6.out) gb165 (Nat.le_of_eq hg.symm)) hb); have n1_ := Aside0.mk (blk_below (g := gb163) (o := .cells #[.string a0_0, .slice A0_1 l0_1.length c0_1] 24 (0, 0)) (by (with_reducible repeat (first | refine blk_drewN ?_ _ | refine blk_drew ?_ | refine blk_alloc ?_ _)); exact BK163.out) hb); have n2_ := Aside0.mk (below_step (by repeat (first | (with_reducible first | exact HB.out | apply below_alloc | apply pw_below_drewN | apply below_drew1 | refine below_set ?_ GE163.out) | exact HB.out)) hb); have n3_ := Aside0.mk (hbox); have n4_ := Aside0.mk ((by rw [hg]; exact (below_size (by repeat (first | (with_reducible first | exact HB.out | apply below_alloc | apply pw_below_drewN | apply below_drew1 | refine below_set ?_ GE163.out) | exact HB.out))) : w.heap.size ≤ gb165)); have n5_ := Aside0.mk ((by rw [hg]; exact (below_size (by repeat (first | (with_reducible first | exact HB.out | apply below_alloc | apply pw_below_drewN | apply below_drew1 | refine below_set ?_ GE163.out) | exact HB.out))) : w.heap.size ≤ gb165)); have n6_ := Aside0.mk ((by rw [hg]; exact Nat.ne_of_lt (blk_lt (g := gb163) (o := .cells #[.string a0_0, .slice A0_1 l0_1.length c0_1] 24 (0, 0)) (by (with_reducible repeat (first | refine blk_drewN ?_ _ | refine blk_drew ?_ | refine blk_alloc ?_ _)); exact BK163.out)) : gb163 ≠ gb165)); have n7_ := Aside0.mk ((by rw [hg]; exact Nat.ne_of_gt (blk_lt (g := gb163) (o := .cells #[.string a0_0, .slice A0_1 l0_1.length c0_1] 24 (0, 0)) (by (with_reducible repeat (first | refine blk_drewN ?_ _ | refine blk_drew ?_ | refine blk_alloc ?_ _)); exact BK163.out)) : gb165 ≠ gb163)); clear HO_6; clear BK163; clear HB; have HO_6 := n0_; have BK163 := n1_; have HB := n2_; have BK165 := n3_; have GW165 := n4_; have GE165 := n5_; have NB163_165 := n6_; have NB165_163 := n7_; clear n0_ n1_ n2_ n3_ n4_ n5_ n6_ n7_; clear hb hbox hg; have hnb12 := NB165_163.out; have hnc12 := NB163_165.out; have hcz13_0 : w11.cell? ⟨gb165, 0, none⟩ = some (.int .i64 0) := (blk_cell BK165.out 0).trans rfl; have hcz13_1 : w11.cell? ⟨gb165, 1, none⟩ = some (.int .i64 0) := (blk_cell BK165.out 1).trans rfl; have hcz13_2 : w11.cell? ⟨gb165, 2, none⟩ = some (.bool false) := (blk_cell BK165.out 2).trans rfl; have hcz13_3 : w11.cell? ⟨gb165, 3, none⟩ = some (.int .i64 0) := (blk_cell BK165.out 3).trans rfl; have hcz13_4 : w11.cell? ⟨gb165, 4, none⟩ = some (.string (⟨#[]⟩ : ByteArray)) := (blk_cell BK165.out 4).trans rfl; have hfz13_0 := blk_frozen BK165.out 0; have hfz13_1 := blk_frozen BK165.out 1; have hfz13_2 := blk_frozen BK165.out 2; have hfz13_3 := blk_frozen BK165.out 3; have hfz13_4 := blk_frozen BK165.out 4; have hcz14_0 : w11.cell? ⟨gb163, 0, none⟩ = some (.string a0_0) := (blk_cell BK163.out 0).trans rfl; have hcz14_1 : w11.cell? ⟨gb163, 1, none⟩ = some (.slice A0_1 l0_1.length c0_1) := (blk_cell BK163.out 1).trans rfl; have hfz14_0 := blk_frozen BK163.out 0; have hfz14_1 := blk_frozen BK163.out 1; have p166 : 0 ≤ (x20_1 : Int) := of_decide_eq_true (by first | (with_reducible assumption) | assumption); have q166 : x20_1 < (l0_1.length : Int) := of_decide_eq_true (by first | (with_reducible assumption) | assumption); obtain ⟨ad166, e166, hx166_0, hx166_1, hx166_2, hx166_3⟩ := at_T36 HR0_1.out x20_1 p166 q166; cases e166; have hn166_0 : ad166.block ≠ gb165 := Nat.ne_of_lt (Nat.lt_of_lt_of_le (by have := World.block_lt_of_cell? _ _ hx166_0; first | rwa [add_block] at this | exact this) GW165.out); have hn166_1 : ad166.block ≠ gb165 := Nat.ne_of_lt (Nat.lt_of_lt_of_le (by have := World.block_lt_of_cell? _ _ hx166_0; first | rwa [add_block] at this | exact this) GW165.out); have hn166_2 : ad166.block ≠ gb165 := Nat.ne_of_lt (Nat.lt_of_lt_of_le (by have := World.block_lt_of_cell? _ _ hx166_0; first | rwa [add_block] at this | exact this) GW165.out); have hn166_3 : ad166.block ≠ gb165 := Nat.ne_of_lt (Nat.lt_of_lt_of_le (by have := World.block_lt_of_cell? _ _ hx166_0; first | rwa [add_block] at this | exact this) GW165.out); have hn166_4 : ad166.block ≠ gb165 := Nat.ne_of_lt (Nat.lt_of_lt_of_le (by have := World.block_lt_of_cell? _ _ hx166_0; first | rwa [add_block] at this | exact this) GW165.out); replace hx166_0 := (HB.out.cell (World.block_lt_of_cell? w _ hx166_0)).trans hx166_0; replace hx166_1 := (HB.out.cell (World.block_lt_of_cell? w _ hx166_1)).trans hx166_1; replace hx166_2 := (HB.out.cell (World.block_lt_of_cell? w _ hx166_2)).trans hx166_2; replace hx166_3 := (HB.out.cell (World.block_lt_of_cell? w _ hx166_3)).trans hx166_3; replace hx166_0 := (cell_far (p := ⟨gb165, 0, none⟩) (by first | (rw [add_block]; exact hn166_0) | (show (Addr.add _ _).block ≠ _; rw [add_block]; exact hn166_0) | exact hn166_0) (.int .i64 ((rd_T41 l1 x20_1).f0.f0))).trans hx166_0; replace hx166_1 := (cell_far (p := ⟨gb165, 0, none⟩) (by first | (rw [add_block]; exact hn166_0) | (show (Addr.add _ _).block ≠ _; rw [add_block]; exact hn166_0) | exact hn166_0) (.int .i64 ((rd_T41 l1 x20_1).f0.f0))).trans hx166_1; replace hx166_2 := (cell_far (p := ⟨gb165, 0, none⟩) (by first | (rw [add_block]; exact hn166_0) | (show (Addr.add _ _).block ≠ _; rw [add_block]; exact hn166_0) | exact hn166_0) (.int .i64 ((rd_T41 l1 x20_1).f0.f0))).trans hx166_2; replace hx166_3 := (cell_far (p := ⟨gb165, 0, none⟩) (by first | (rw [add_block]; exact hn166_0) | (show (Addr.add _ _).block ≠ _; rw [add_block]; exact hn166_0) | exact hn166_0) (.int .i64 ((rd_T41 l1 x20_1).f0.f0))).trans hx166_3; replace hx166_0 := (cell_far (p := ⟨gb165, 1, none⟩) (by first | (rw [add_block]; exact hn166_1) | (show (Addr.add _ _).block ≠ _; rw [add_block]; exact hn166_1) | exact hn166_1) (.int .i64 ((rd_T41 l1 x20_1).f0.f1))).trans hx166_0; replace hx166_1 := (cell_far (p := ⟨gb165, 1, none⟩) (by first | (rw [add_block]; exact hn166_1) | (show (Addr.add _ _).block ≠ _; rw [add_block]; exact hn166_1) | exact hn166_1) (.int .i64 ((rd_T41 l1 x20_1).f0.f1))).trans hx166_1; replace hx166_2 := (cell_far (p := ⟨gb165, 1, none⟩) (by first | (rw [add_block]; exact hn166_1) | (show (Addr.add _ _).block ≠ _; rw [add_block]; exact hn166_1) | exact hn166_1) (.int .i64 ((rd_T41 l1 x20_1).f0.f1))).trans hx166_2; replace hx166_3 := (cell_far (p := ⟨gb165, 1, none⟩) (by first | (rw [add_block]; exact hn166_1) | (show (Addr.add _ _).block ≠ _; rw [add_block]; exact hn166_1) | exact hn166_1) (.int .i64 ((rd_T41 l1 x20_1).f0.f1))).trans hx166_3; replace hx166_0 := (cell_far (p := ⟨gb165, 2, none⟩) (by first | (rw [add_block]; exact hn166_2) | (show (Addr.add _ _).block ≠ _; rw [add_block]; exact hn166_2) | exact hn166_2) (.bool ((rd_T41 l1 x20_1).f1))).trans hx166_0; replace hx166_1 := (cell_far (p := ⟨gb165, 2, none⟩) (by first | (rw [add_block]; exact hn166_2) | (show (Addr.add _ _).block ≠ _; rw [add_block]; exact hn166_2) | exact hn166_2) (.bool ((rd_T41 l1 x20_1).f1))).trans hx166_1; replace hx166_2 := (cell_far (p := ⟨gb165, 2, none⟩) (by first | (rw [add_block]; exact hn166_2) | (show (Addr.add _ _).block ≠ _; rw [add_block]; exact hn166_2) | exact hn166_2) (.bool ((rd_T41 l1 x20_1).f1))).trans hx166_2; replace hx166_3 := (cell_far (p := ⟨gb165, 2, none⟩) (by first | (rw [add_block]; exact hn166_2) | (show (Addr.add _ _).block ≠ _; rw [add_block]; exact hn166_2) | exact hn166_2) (.bool ((rd_T41 l1 x20_1).f1))).trans hx166_3; replace hx166_0 := (cell_far (p := ⟨gb165, 3, none⟩) (by first | (rw [add_block]; exact hn166_3) | (show (Addr.add _ _).block ≠ _; rw [add_block]; exact hn166_3) | exact hn166_3) (.int .i64 ((rd_T41 l1 x20_1).f2))).trans hx166_0; replace hx166_1 := (cell_far (p := ⟨gb165, 3, none⟩) (by first | (rw [add_block]; exact hn166_3) | (show (Addr.add _ _).block ≠ _; rw [add_block]; exact hn166_3) | exact hn166_3) (.int .i64 ((rd_T41 l1 x20_1).f2))).trans hx166_1; replace hx166_2 := (cell_far (p := ⟨gb165, 3, none⟩) (by first | (rw [add_block]; exact hn166_3) | (show (Addr.add _ _).block ≠ _; rw [add_block]; exact hn166_3) | exact hn166_3) (.int .i64 ((rd_T41 l1 x20_1).f2))).trans hx166_2; replace hx166_3 := (cell_far (p := ⟨gb165, 3, none⟩) (by first | (rw [add_block]; exact hn166_3) | (show (Addr.add _ _).block ≠ _; rw [add_block]; exact hn166_3) | exact hn166_3) (.int .i64 ((rd_T41 l1 x20_1).f2))).trans hx166_3; replace hx166_0 := (cell_far (p := ⟨gb165, 4, none⟩) (by first | (rw [add_block]; exact hn166_4) | (show (Addr.add _ _).block ≠ _; rw [add_block]; exact hn166_4) | exact hn166_4) (.string ((rd_T41 l1 x20_1).f3))).trans hx166_0; replace hx166_1 := (cell_far (p := ⟨gb165, 4, none⟩) (by first | (rw [add_block]; exact hn166_4) | (show (Addr.add _ _).block ≠ _; rw [add_block]; exact hn166_4) | exact hn166_4) (.string ((rd_T41 l1 x20_1).f3))).trans hx166_1; replace hx166_2 := (cell_far (p := ⟨gb165, 4, none⟩) (by first | (rw [add_block]; exact hn166_4) | (show (Addr.add _ _).block ≠ _; rw [add_block]; exact hn166_4) | exact hn166_4) (.string ((rd_T41 l1 x20_1).f3))).trans hx166_2; replace hx166_3 := (cell_far (p := ⟨gb165, 4, none⟩) (by first | (rw [add_block]; exact hn166_4) | (show (Addr.add _ _).block ≠ _; rw [add_block]; exact hn166_4) | exact hn166_4) (.string ((rd_T41 l1 x20_1).f3))).trans hx166_3; clear hn166_0; clear hn166_1; clear hn166_2; clear hn166_3; clear hn166_4; replace p166 := eq_true p166; replace q166 := eq_true q166) | ((with_reducible refine gate_dst (N := 9) rfl ?_); refine box_event ?hg (N := 9) ?hd (cs := #[.string (⟨#[]⟩ : ByteArray), .int .i64 0, .int .i64 0, .bool false]) (t := 36) ?hr ?_; (case hd => rfl); (case hg => rfl); (case hr => first | (go_simp; done) | (go_simp; rfl)); intro gb167 hg w15 hbox hb; have n0_ := Aside0.mk (Kd.R_below (by (with_reducible repeat (first | apply Kd.R_alloc | apply Kd.R_drewN | apply Kd.R_drew)); exact (Kd.R_mono (Kd.R_far (p := ⟨gb165, 4, none⟩) (Kd.R_far (p := ⟨gb165, 3, none⟩) (Kd.R_far (p := ⟨gb165, 2, none⟩) (Kd.R_far (p := ⟨gb165, 1, none⟩) (Kd.R_far (p := ⟨gb165, 0, none⟩) (Kd.R_mono HO_6.out (fun k_ hk => (⟨hk, hk.2⟩ : _ ∧ k_ ≠ gb165))) (fun _ hk => hk.2) (.int .i64 ((rd_T41 l1 x20_1).f0.f0))) (fun _ hk => hk.2) (.int .i64 ((rd_T41 l1 x20_1).f0.f1))) (fun _ hk => hk.2) (.bool ((rd_T41 l1 x20_1).f1))) (fun _ hk => hk.2) (.int .i64 ((rd_T41 l1 x20_1).f2))) (fun _ hk => hk.2) (.string ((rd_T41 l1 x20_1).f3))) (fun _ h_ => h_.1))) hb); have n1_ := Aside0.mk (blk_below (g := gb163) (o := .cells #[.string a0_0, .slice (some ad166) l0_1.length c0_1] 24 (0, 0)) (by (with_reducible repeat (first | refine blk_drewN ?_ _ | refine blk_drew ?_ | refine blk_alloc ?_ _)); refine blk_far ?_ NB163_165.out _; (with_reducible repeat (first | refine blk_drewN ?_ _ | refine blk_drew ?_ | refine blk_alloc ?_ _)); refine blk_far ?_ NB163_165.out _; (with_reducible repeat (first | refine blk_drewN ?_ _ | refine blk_drew ?_ | refine blk_alloc ?_ _)); refine blk_far ?_ NB163_165.out _; (with_reducible repeat (first | refine blk_drewN ?_ _ | refine blk_drew ?_ | refine blk_alloc ?_ _)); refine blk_far ?_ NB163_165.out _; (with_reducible repeat (first | refine blk_drewN ?_ _ | refine blk_drew ?_ | refine blk_alloc ?_ _)); refine blk_far ?_ NB163_165.out _; (with_reducible repeat (first | refine blk_drewN ?_ _ | refine blk_drew ?_ | refine blk_alloc ?_ _)); exact BK163.out) hb); have n2_ := Aside0.mk (blk_below (g := gb165) (o := .cells #[.int .i64 ((rd_T41 l1 x20_1).f0.f0), .int .i64 ((rd_T41 l1 x20_1).f0.f1), .bool ((rd_T41 l1 x20_1).f1), .int .i64 ((rd_T41 l1 x20_1).f2), .string ((rd_T41 l1 x20_1).f3)] 41 (0, 0)) (by (with_reducible repeat (first | refine blk_drewN ?_ _ | refine blk_drew ?_ | refine blk_alloc ?_ _)); refine blk_put (cs := #[.int .i64 ((rd_T41 l1 x20_1).f0.f0), .int .i64 ((rd_T41 l1 x20_1).f0.f1), .bool ((rd_T41 l1 x20_1).f1), .int .i64 ((rd_T41 l1 x20_1).f2), .string (⟨#[]⟩ : ByteArray)]) ?_ 4 _ rfl; (with_reducible repeat (first | refine blk_drewN ?_ _ | refine blk_drew ?_ | refine blk_alloc ?_ _)); refine blk_put (cs := #[.int .i64 ((rd_T41 l1 x20_1).f0.f0), .int .i64 ((rd_T41 l1 x20_1).f0.f1), .bool ((rd_T41 l1 x20_1).f1), .int .i64 0, .string (⟨#[]⟩ : ByteArray)]) ?_ 3 _ rfl; (with_reducible repeat (first | refine blk_drewN ?_ _ | refine blk_drew ?_ | refine blk_alloc ?_ _)); refine blk_put (cs := #[.int .i64 ((rd_T41 l1 x20_1).f0.f0), .int .i64 ((rd_T41 l1 x20_1).f0.f1), .bool false, .int .i64 0, .string (⟨#[]⟩ : ByteArray)]) ?_ 2 _ rfl; (with_reducible repeat (first | refine blk_drewN ?_ _ | refine blk_drew ?_ | refine blk_alloc ?_ _)); refine blk_put (cs := #[.int .i64 ((rd_T41 l1 x20_1).f0.f0), .int .i64 0, .bool false, .int .i64 0, .string (⟨#[]⟩ : ByteArray)]) ?_ 1 _ rfl; (with_reducible repeat (first | refine blk_drewN ?_ _ | refine blk_drew ?_ | refine blk_alloc ?_ _)); refine blk_put (cs := #[.int .i64 0, .int .i64 0, .bool false, .int .i64 0, .string (⟨#[]⟩ : ByteArray)]) ?_ 0 _ rfl; (with_reducible repeat (first | refine blk_drewN ?_ _ | refine blk_drew ?_ | refine blk_alloc ?_ _)); exact BK165.out) hb); have n3_ := Aside0.mk (below_step (by repeat (first | (with_reducible first | exact HB.out | apply below_alloc | apply pw_below_drewN | apply below_drew1 | refine below_set ?_ GE163.out | refine below_set ?_ GE165.out) | exact HB.out)) hb); have n4_ := Aside0.mk (hbox); have n5_ := Aside0.mk ((by rw [hg]; exact (below_size (by repeat (first | (with_reducible first | exact HB.out | apply below_alloc | apply pw_below_drewN | apply below_drew1 | refine below_set ?_ GE163.out | refine below_set ?_ GE165.out) | exact HB.out))) : w.heap.size ≤ gb167)); have n6_ := Aside0.mk ((by rw [hg]; exact (below_size (by repeat (first | (with_reducible first | exact HB.out | apply below_alloc | apply pw_below_drewN | apply below_drew1 | refine below_set ?_ GE163.out | refine below_set ?_ GE165.out) | exact HB.out))) : w.heap.size ≤ gb167)); have n7_ := Aside0.mk ((by rw [hg]; exact Nat.ne_of_lt (blk_lt (g := gb163) (o := .cells #[.string a0_0, .slice (some ad166) l0_1.length c0_1] 24 (0, 0)) (by (with_reducible repeat (first | refine blk_drewN ?_ _ | refine blk_drew ?_ | refine blk_alloc ?_ _)); refine blk_far ?_ NB163_165.out _; (with_reducible repeat (first | refine blk_drewN ?_ _ | refine blk_drew ?_ | refine blk_alloc ?_ _)); refine blk_far ?_ NB163_165.out _; (with_reducible repeat (first | refine blk_drewN ?_ _ | refine blk_drew ?_ | refine blk_alloc ?_ _)); refine blk_far ?_ NB163_165.out _; (with_reducible repeat (first | refine blk_drewN ?_ _ | refine blk_drew ?_ | refine blk_alloc ?_ _)); refine blk_far ?_ NB163_165.out _; (with_reducible repeat (first | refine blk_drewN ?_ _ | refine blk_drew ?_ | refine blk_alloc ?_ _)); refine blk_far ?_ NB163_165.out _; (with_reducible repeat (first | refine blk_drewN ?_ _ | refine blk_drew ?_ | refine blk_alloc ?_ _)); exact BK163.out)) : gb163 ≠ gb167)); have n8_ := Aside0.mk ((by rw [hg]; exact Nat.ne_of_gt (blk_lt (g := gb163) (o := .cells #[.string a0_0, .slice (some ad166) l0_1.length c0_1] 24 (0, 0)) (by (with_reducible repeat (first | refine blk_drewN ?_ _ | refine blk_drew ?_ | refine blk_alloc ?_ _)); refine blk_far ?_ NB163_165.out _; (with_reducible repeat (first | refine blk_drewN ?_ _ | refine blk_drew ?_ | refine blk_alloc ?_ _)); refine blk_far ?_ NB163_165.out _; (with_reducible repeat (first | refine blk_drewN ?_ _ | refine blk_drew ?_ | refine blk_alloc ?_ _)); refine blk_far ?_ NB163_165.out _; (with_reducible repeat (first | refine blk_drewN ?_ _ | refine blk_drew ?_ | refine blk_alloc ?_ _)); refine blk_far ?_ NB163_165.out _; (with_reducible repeat (first | refine blk_drewN ?_ _ | refine blk_drew ?_ | refine blk_alloc ?_ _)); refine blk_far ?_ NB163_165.out _; (with_reducible repeat (first | refine blk_drewN ?_ _ | refine blk_drew ?_ | refine blk_alloc ?_ _)); exact BK163.out)) : gb167 ≠ gb163)); have n9_ := Aside0.mk ((by rw [hg]; exact Nat.ne_of_lt (blk_lt (g := gb165) (o := .cells #[.int .i64 ((rd_T41 l1 x20_1).f0.f0), .int .i64 ((rd_T41 l1 x20_1).f0.f1), .bool ((rd_T41 l1 x20_1).f1), .int .i64 ((rd_T41 l1 x20_1).f2), .string ((rd_T41 l1 x20_1).f3)] 41 (0, 0)) (by (with_reducible repeat (first | refine blk_drewN ?_ _ | refine blk_drew ?_ | refine blk_alloc ?_ _)); refine blk_put (cs := #[.int .i64 ((rd_T41 l1 x20_1).f0.f0), .int .i64 ((rd_T41 l1 x20_1).f0.f1), .bool ((rd_T41 l1 x20_1).f1), .int .i64 ((rd_T41 l1 x20_1).f2), .string (⟨#[]⟩ : ByteArray)]) ?_ 4 _ rfl; (with_reducible repeat (first | refine blk_drewN ?_ _ | refine blk_drew ?_ | refine blk_alloc ?_ _)); refine blk_put (cs := #[.int .i64 ((rd_T41 l1 x20_1).f0.f0), .int .i64 ((rd_T41 l1 x20_1).f0.f1), .bool ((rd_T41 l1 x20_1).f1), .int .i64 0, .string (⟨#[]⟩ : ByteArray)]) ?_ 3 _ rfl; (with_reducible repeat (first | refine blk_drewN ?_ _ | refine blk_drew ?_ | refine blk_alloc ?_ _)); refine blk_put (cs := #[.int .i64 ((rd_T41 l1 x20_1).f0.f0), .int .i64 ((rd_T41 l1 x20_1).f0.f1), .bool false, .int .i64 0, .string (⟨#[]⟩ : ByteArray)]) ?_ 2 _ rfl; (with_reducible repeat (first | refine blk_drewN ?_ _ | refine blk_drew ?_ | refine blk_alloc ?_ _)); refine blk_put (cs := #[.int .i64 ((rd_T41 l1 x20_1).f0.f0), .int .i64 0, .bool false, .int .i64 0, .string (⟨#[]⟩ : ByteArray)]) ?_ 1 _ rfl; (with_reducible repeat (first | refine blk_drewN ?_ _ | refine blk_drew ?_ | refine blk_alloc ?_ _)); refine blk_put (cs := #[.int .i64 0, .int .i64 0, .bool false, .int .i64 0, .string (⟨#[]⟩ : ByteArray)]) ?_ 0 _ rfl; (with_reducible repeat (first | refine blk_drewN ?_ _ | refine blk_drew ?_ | refine blk_alloc ?_ _)); exact BK165.out)) : gb165 ≠ gb167)); have n10_ := Aside0.mk ((by rw [hg]; exact Nat.ne_of_gt (blk_lt (g := gb165) (o := .cells #[.int .i64 ((rd_T41 l1 x20_1).f0.f0), .int .i64 ((rd_T41 l1 x20_1).f0.f1), .bool ((rd_T41 l1 x20_1).f1), .int .i64 ((rd_T41 l1 x20_1).f2), .string ((rd_T41 l1 x20_1).f3)] 41 (0, 0)) (by (with_reducible repeat (first | refine blk_drewN ?_ _ | refine blk_drew ?_ | refine blk_alloc ?_ _)); refine blk_put (cs := #[.int .i64 ((rd_T41 l1 x20_1).f0.f0), .int .i64 ((rd_T41 l1 x20_1).f0.f1), .bool ((rd_T41 l1 x20_1).f1), .int .i64 ((rd_T41 l1 x20_1).f2), .string (⟨#[]⟩ : ByteArray)]) ?_ 4 _ rfl; (with_reducible repeat (first | refine blk_drewN ?_ _ | refine blk_drew ?_ | refine blk_alloc ?_ _)); refine blk_put (cs := #[.int .i64 ((rd_T41 l1 x20_1).f0.f0), .int .i64 ((rd_T41 l1 x20_1).f0.f1), .bool ((rd_T41 l1 x20_1).f1), .int .i64 0, .string (⟨#[]⟩ : ByteArray)]) ?_ 3 _ rfl; (with_reducible repeat (first | refine blk_drewN ?_ _ | refine blk_drew ?_ | refine blk_alloc ?_ _)); refine blk_put (cs := #[.int .i64 ((rd_T41 l1 x20_1).f0.f0), .int .i64 ((rd_T41 l1 x20_1).f0.f1), .bool false, .int .i64 0, .string (⟨#[]⟩ : ByteArray)]) ?_ 2 _ rfl; (with_reducible repeat (first | refine blk_drewN ?_ _ | refine blk_drew ?_ | refine blk_alloc ?_ _)); refine blk_put (cs := #[.int .i64 ((rd_T41 l1 x20_1).f0.f0), .int .i64 0, .bool false, .int .i64 0, .string (⟨#[]⟩ : ByteArray)]) ?_ 1 _ rfl; (with_reducible repeat (first | refine blk_drewN ?_ _ | refine blk_drew ?_ | refine blk_alloc ?_ _)); refine blk_put (cs := #[.int .i64 0, .int .i64 0, .bool false, .int .i64 0, .string (⟨#[]⟩ : ByteArray)]) ?_ 0 _ rfl; (with_reducible repeat (first | refine blk_drewN ?_ _ | refine blk_drew ?_ | refine blk_alloc ?_ _)); exact BK165.out)) : gb167 ≠ gb165)); clear HO_6; clear BK163; clear BK165; clear HB; have HO_6 := n0_; have BK163 := n1_; have BK165 := n2_; have HB := n3_; have BK167 := n4_; have GW167 := n5_; have GE167 := n6_; have NB163_167 := n7_; have NB167_163 := n8_; have NB165_167 := n9_; have NB167_165 := n10_; clear n0_ n1_ n2_ n3_ n4_ n5_ n6_ n7_ n8_ n9_ n10_; clear hb hbox hg; have hnb16 := NB167_163.out; have hnc16 := NB163_167.out; have hnb17 := NB167_165.out; have hnc17 := NB165_167.out; have hcz18_0 : w15.cell? ⟨gb167, 0, none⟩ = some (.string (⟨#[]⟩ : ByteArray)) := (blk_cell BK167.out 0).trans rfl; have hcz18_1 : w15.cell? ⟨gb167, 1, none⟩ = some (.int .i64 0) := (blk_cell BK167.out 1).trans rfl; have hcz18_2 : w15.cell? ⟨gb167, 2, none⟩ = some (.int .i64 0) := (blk_cell BK167.out 2).trans rfl; have hcz18_3 : w15.cell? ⟨gb167, 3, none⟩ = some (.bool false) := (blk_cell BK167.out 3).trans rfl; have hfz18_0 := blk_frozen BK167.out 0; have hfz18_1 := blk_frozen BK167.out 1; have hfz18_2 := blk_frozen BK167.out 2; have hfz18_3 := blk_frozen BK167.out 3))
                (try simp only [Act.put, List.setIfInBounds_toArray, List.set_cons_zero, List.set_cons_succ])
                go_cut [30] (fun v30 wc => ∃ (kq : Nat) (x30_9 : Bool), v30 = .bool x30_9 ∧ Aside0 (schema_Fit.j1 kq x6_1 l1 (l1.length : Int) x20_1 x30_9 a0_0 l0_1 ((rd_T41 l1 x20_1).f0.f0) ((rd_T41 l1 x20_1).f0.f1) ((rd_T41 l1 x20_1).f1) ((rd_T41 l1 x20_1).f2) ((rd_T41 l1 x20_1).f3) ((rd_T36 l0_1 x20_1).f0) ((rd_T36 l0_1 x20_1).f1.f0) ((rd_T36 l0_1 x20_1).f1.f1) ((rd_T36 l0_1 x20_1).f2) = some (r1, r2)) ∧ Aside0 (kq ≤ k1) ∧ Aside0 (Kd.R k41 41 wc w.heap.size (fun k_ => k_ ≠ gb165) u6 x6_1) ∧ Aside0 (wc.heap[gb163]? = some (.cells #[.string a0_0, (.slice (some ad166) l0_1.length c0_1)] 24 (0, 0))) ∧ Aside0 (wc.heap[gb165]? = some (.cells #[.int .i64 ((rd_T41 l1 x20_1).f0.f0), .int .i64 ((rd_T41 l1 x20_1).f0.f1), .bool ((rd_T41 l1 x20_1).f1), .int .i64 ((rd_T41 l1 x20_1).f2), .string ((rd_T41 l1 x20_1).f3)] 41 (0, 0))) ∧ Aside0 (wc.heap[gb167]? = some (.cells #[.string ((rd_T36 l0_1 x20_1).f0), .int .i64 ((rd_T36 l0_1 x20_1).f1.f0), .int .i64 ((rd_T36 l0_1 x20_1).f1.f1), .bool ((rd_T36 l0_1 x20_1).f2)] 36 (0, 0))) ∧ Aside0 (Below w.heap.size w wc))
                case first =>
                  have H := HC10.out
                  clear HC10
                  obtain ⟨bq19, hbq19⟩ : ∃ b_ : Bool, b_ = ((rd_T41 l1 x20_1).f1) := ⟨_, rfl⟩
                  replace H : (if bq19 = true then (schema_Fit.j1 k1 x6_1 l1 (l1.length : Int) x20_1 ((rd_T36 l0_1 x20_1).f2) a0_0 l0_1 ((rd_T41 l1 x20_1).f0.f0) ((rd_T41 l1 x20_1).f0.f1) bq19 ((rd_T41 l1 x20_1).f2) ((rd_T41 l1 x20_1).f3) ((rd_T36 l0_1 x20_1).f0) ((rd_T36 l0_1 x20_1).f1.f0) ((rd_T36 l0_1 x20_1).f1.f1) ((rd_T36 l0_1 x20_1).f2)) else (schema_Fit.j1 k1 x6_1 l1 (l1.length : Int) x20_1 false a0_0 l0_1 ((rd_T41 l1 x20_1).f0.f0) ((rd_T41 l1 x20_1).f0.f1) bq19 ((rd_T41 l1 x20_1).f2) ((rd_T41 l1 x20_1).f3) ((rd_T36 l0_1 x20_1).f0) ((rd_T36 l0_1 x20_1).f1.f0) ((rd_T36 l0_1 x20_1).f1.f1) ((rd_T36 l0_1 x20_1).f2))) = some (r1, r2) := by rw [← hbq19] at H; exact H
                  have Nbq19 := Aside0.mk hbq19
                  clear hbq19
                  (try rw [← Nbq19.out])
                  by_cases c20 : bq19 = true
                  · subst c20
                    have H1 : (schema_Fit.j1 k1 x6_1 l1 (l1.length : Int) x20_1 ((rd_T36 l0_1 x20_1).f2) a0_0 l0_1 ((rd_T41 l1 x20_1).f0.f0) ((rd_T41 l1 x20_1).f0.f1) true ((rd_T41 l1 x20_1).f2) ((rd_T41 l1 x20_1).f3) ((rd_T36 l0_1 x20_1).f0) ((rd_T36 l0_1 x20_1).f1.f0) ((rd_T36 l0_1 x20_1).f1.f1) ((rd_T36 l0_1 x20_1).f2)) = some (r1, r2) := by rw [if_pos rfl] at H; exact H
                    clear H
                    have H := H1
                    clear H1
                    have H' := Aside0.mk H
                    clear H
                    have hnb21 := NB165_163.out
                    have hnc21 := NB163_165.out
                    have hnb22 := NB165_167.out
                    have hnc22 := NB167_165.out
                    have hcz23_0 : w15.cell? ⟨gb165, 0, none⟩ = some (.int .i64 ((rd_T41 l1 x20_1).f0.f0)) := (blk_cell BK165.out 0).trans rfl
                    have hcz23_1 : w15.cell? ⟨gb165, 1, none⟩ = some (.int .i64 ((rd_T41 l1 x20_1).f0.f1)) := (blk_cell BK165.out 1).trans rfl
                    have hcz23_2 : w15.cell? ⟨gb165, 2, none⟩ = some (.bool true) := (blk_cell BK165.out 2).trans (by first | rfl | (rw [← Nbq19.out]; rfl))
                    have hcz23_3 : w15.cell? ⟨gb165, 3, none⟩ = some (.int .i64 ((rd_T41 l1 x20_1).f2)) := (blk_cell BK165.out 3).trans rfl
                    have hcz23_4 : w15.cell? ⟨gb165, 4, none⟩ = some (.string ((rd_T41 l1 x20_1).f3)) := (blk_cell BK165.out 4).trans rfl
                    have hfz23_0 := blk_frozen BK165.out 0
                    have hfz23_1 := blk_frozen BK165.out 1
                    have hfz23_2 := blk_frozen BK165.out 2
                    have hfz23_3 := blk_frozen BK165.out 3
                    have hfz23_4 := blk_frozen BK165.out 4
                    have hnb24 := NB167_163.out
                    have hnc24 := NB163_167.out
                    have hcz25_0 : w15.cell? ⟨gb167, 0, none⟩ = some (.string (⟨#[]⟩ : ByteArray)) := (blk_cell BK167.out 0).trans rfl
                    have hcz25_1 : w15.cell? ⟨gb167, 1, none⟩ = some (.int .i64 0) := (blk_cell BK167.out 1).trans rfl
                    have hcz25_2 : w15.cell? ⟨gb167, 2, none⟩ = some (.int .i64 0) := (blk_cell BK167.out 2).trans rfl
                    have hcz25_3 : w15.cell? ⟨gb167, 3, none⟩ = some (.bool false) := (blk_cell BK167.out 3).trans (by first | rfl | (rw [← Nbq19.out]; rfl))
                    have hfz25_0 := blk_frozen BK167.out 0
                    have hfz25_1 := blk_frozen BK167.out 1
                    have hfz25_2 := blk_frozen BK167.out 2
                    have hfz25_3 := blk_frozen BK167.out 3
                    go_wp2
                    go_meet
                    case rel => exact ⟨_, ((rd_T36 l0_1 x20_1).f2), (by first | rfl | (simp; done) | (simp [*]; done)), (by first | exact H' | (rw [← Nbq19.out]; exact H')), ⟨by have := HK1.out; first | omega | exact Nat.le_refl _⟩, ⟨by (with_reducible repeat (first | apply Kd.R_alloc | apply Kd.R_drewN | apply Kd.R_drew)); exact Kd.R_mono (Kd.R_far (p := ⟨gb167, 3, none⟩) (Kd.R_far (p := ⟨gb167, 2, none⟩) (Kd.R_far (p := ⟨gb167, 1, none⟩) (Kd.R_far (p := ⟨gb167, 0, none⟩) (Kd.R_types HO_6.out BK167.out (by decide)) (fun _ hk => hk.2) (.string ((rd_T36 l0_1 x20_1).f0))) (fun _ hk => hk.2) (.int .i64 ((rd_T36 l0_1 x20_1).f1.f0))) (fun _ hk => hk.2) (.int .i64 ((rd_T36 l0_1 x20_1).f1.f1))) (fun _ hk => hk.2) (.bool ((rd_T36 l0_1 x20_1).f2))) (fun _ hk => hk.1.2)⟩, ⟨by (with_reducible repeat (first | refine blk_drewN ?_ _ | refine blk_drew ?_ | refine blk_alloc ?_ _)); refine blk_far ?_ NB163_167.out _; (with_reducible repeat (first | refine blk_drewN ?_ _ | refine blk_drew ?_ | refine blk_alloc ?_ _)); refine blk_far ?_ NB163_167.out _; (with_reducible repeat (first | refine blk_drewN ?_ _ | refine blk_drew ?_ | refine blk_alloc ?_ _)); refine blk_far ?_ NB163_167.out _; (with_reducible repeat (first | refine blk_drewN ?_ _ | refine blk_drew ?_ | refine blk_alloc ?_ _)); refine blk_far ?_ NB163_167.out _; (with_reducible repeat (first | refine blk_drewN ?_ _ | refine blk_drew ?_ | refine blk_alloc ?_ _)); exact BK163.out⟩, ⟨by (with_reducible repeat (first | refine blk_drewN ?_ _ | refine blk_drew ?_ | refine blk_alloc ?_ _)); refine blk_far ?_ NB165_167.out _; (with_reducible repeat (first | refine blk_drewN ?_ _ | refine blk_drew ?_ | refine blk_alloc ?_ _)); refine blk_far ?_ NB165_167.out _; (with_reducible repeat (first | refine blk_drewN ?_ _ | refine blk_drew ?_ | refine blk_alloc ?_ _)); refine blk_far ?_ NB165_167.out _; (with_reducible repeat (first | refine blk_drewN ?_ _ | refine blk_drew ?_ | refine blk_alloc ?_ _)); refine blk_far ?_ NB165_167.out _; (with_reducible repeat (first | refine blk_drewN ?_ _ | refine blk_drew ?_ | refine blk_alloc ?_ _)); exact BK165.out⟩, ⟨by (with_reducible repeat (first | refine blk_drewN ?_ _ | refine blk_drew ?_ | refine blk_alloc ?_ _)); refine blk_put (cs := #[.string ((rd_T36 l0_1 x20_1).f0), .int .i64 ((rd_T36 l0_1 x20_1).f1.f0), .int .i64 ((rd_T36 l0_1 x20_1).f1.f1), .bool false]) ?_ 3 _ rfl; (with_reducible repeat (first | refine blk_drewN ?_ _ | refine blk_drew ?_ | refine blk_alloc ?_ _)); refine blk_put (cs := #[.string ((rd_T36 l0_1 x20_1).f0), .int .i64 ((rd_T36 l0_1 x20_1).f1.f0), .int .i64 0, .bool false]) ?_ 2 _ rfl; (with_reducible repeat (first | refine blk_drewN ?_ _ | refine blk_drew ?_ | refine blk_alloc ?_ _)); refine blk_put (cs := #[.string ((rd_T36 l0_1 x20_1).f0), .int .i64 0, .int .i64 0, .bool false]) ?_ 1 _ rfl; (with_reducible repeat (first | refine blk_drewN ?_ _ | refine blk_drew ?_ | refine blk_alloc ?_ _)); refine blk_put (cs := #[.string (⟨#[]⟩ : ByteArray), .int .i64 0, .int .i64 0, .bool false]) ?_ 0 _ rfl; (with_reducible repeat (first | refine blk_drewN ?_ _ | refine blk_drew ?_ | refine blk_alloc ?_ _)); exact BK167.out⟩, ⟨by repeat (first | (with_reducible first | exact HB.out | apply below_alloc | apply pw_below_drewN | apply below_drew1 | refine below_set ?_ GE163.out | refine below_set ?_ GE165.out | refine below_set ?_ GE167.out) | exact HB.out)⟩⟩
                  · replace c20 := Bool.eq_false_iff.mpr c20
                    subst c20
                    have H1 : (schema_Fit.j1 k1 x6_1 l1 (l1.length : Int) x20_1 false a0_0 l0_1 ((rd_T41 l1 x20_1).f0.f0) ((rd_T41 l1 x20_1).f0.f1) false ((rd_T41 l1 x20_1).f2) ((rd_T41 l1 x20_1).f3) ((rd_T36 l0_1 x20_1).f0) ((rd_T36 l0_1 x20_1).f1.f0) ((rd_T36 l0_1 x20_1).f1.f1) ((rd_T36 l0_1 x20_1).f2)) = some (r1, r2) := by rw [if_neg (show ¬ (false = true) by decide)] at H; exact H
                    clear H
                    have H := H1
                    clear H1
                    have H' := Aside0.mk H
                    clear H
                    have hnb26 := NB165_163.out
                    have hnc26 := NB163_165.out
                    have hnb27 := NB165_167.out
                    have hnc27 := NB167_165.out
                    have hcz28_0 : w15.cell? ⟨gb165, 0, none⟩ = some (.int .i64 ((rd_T41 l1 x20_1).f0.f0)) := (blk_cell BK165.out 0).trans rfl
                    have hcz28_1 : w15.cell? ⟨gb165, 1, none⟩ = some (.int .i64 ((rd_T41 l1 x20_1).f0.f1)) := (blk_cell BK165.out 1).trans rfl
                    have hcz28_2 : w15.cell? ⟨gb165, 2, none⟩ = some (.bool false) := (blk_cell BK165.out 2).trans (by first | rfl | (rw [← Nbq19.out]; rfl))
                    have hcz28_3 : w15.cell? ⟨gb165, 3, none⟩ = some (.int .i64 ((rd_T41 l1 x20_1).f2)) := (blk_cell BK165.out 3).trans rfl
                    have hcz28_4 : w15.cell? ⟨gb165, 4, none⟩ = some (.string ((rd_T41 l1 x20_1).f3)) := (blk_cell BK165.out 4).trans rfl
                    have hfz28_0 := blk_frozen BK165.out 0
                    have hfz28_1 := blk_frozen BK165.out 1
                    have hfz28_2 := blk_frozen BK165.out 2
                    have hfz28_3 := blk_frozen BK165.out 3
                    have hfz28_4 := blk_frozen BK165.out 4
                    go_wp2
                    go_meet
                    case rel => exact ⟨_, (false), (by first | rfl | (simp; done) | (simp [*]; done)), (by first | exact H' | (rw [← Nbq19.out]; exact H')), ⟨by have := HK1.out; first | omega | exact Nat.le_refl _⟩, ⟨by (with_reducible repeat (first | apply Kd.R_alloc | apply Kd.R_drewN | apply Kd.R_drew)); exact Kd.R_mono (Kd.R_far (p := ⟨gb167, 3, none⟩) (Kd.R_far (p := ⟨gb167, 2, none⟩) (Kd.R_far (p := ⟨gb167, 1, none⟩) (Kd.R_far (p := ⟨gb167, 0, none⟩) (Kd.R_types HO_6.out BK167.out (by decide)) (fun _ hk => hk.2) (.string ((rd_T36 l0_1 x20_1).f0))) (fun _ hk => hk.2) (.int .i64 ((rd_T36 l0_1 x20_1).f1.f0))) (fun _ hk => hk.2) (.int .i64 ((rd_T36 l0_1 x20_1).f1.f1))) (fun _ hk => hk.2) (.bool ((rd_T36 l0_1 x20_1).f2))) (fun _ hk => hk.1.2)⟩, ⟨by (with_reducible repeat (first | refine blk_drewN ?_ _ | refine blk_drew ?_ | refine blk_alloc ?_ _)); refine blk_far ?_ NB163_167.out _; (with_reducible repeat (first | refine blk_drewN ?_ _ | refine blk_drew ?_ | refine blk_alloc ?_ _)); refine blk_far ?_ NB163_167.out _; (with_reducible repeat (first | refine blk_drewN ?_ _ | refine blk_drew ?_ | refine blk_alloc ?_ _)); refine blk_far ?_ NB163_167.out _; (with_reducible repeat (first | refine blk_drewN ?_ _ | refine blk_drew ?_ | refine blk_alloc ?_ _)); refine blk_far ?_ NB163_167.out _; (with_reducible repeat (first | refine blk_drewN ?_ _ | refine blk_drew ?_ | refine blk_alloc ?_ _)); exact BK163.out⟩, ⟨by (with_reducible repeat (first | refine blk_drewN ?_ _ | refine blk_drew ?_ | refine blk_alloc ?_ _)); refine blk_far ?_ NB165_167.out _; (with_reducible repeat (first | refine blk_drewN ?_ _ | refine blk_drew ?_ | refine blk_alloc ?_ _)); refine blk_far ?_ NB165_167.out _; (with_reducible repeat (first | refine blk_drewN ?_ _ | refine blk_drew ?_ | refine blk_alloc ?_ _)); refine blk_far ?_ NB165_167.out _; (with_reducible repeat (first | refine blk_drewN ?_ _ | refine blk_drew ?_ | refine blk_alloc ?_ _)); refine blk_far ?_ NB165_167.out _; (with_reducible repeat (first | refine blk_drewN ?_ _ | refine blk_drew ?_ | refine blk_alloc ?_ _)); exact BK165.out⟩, ⟨by (with_reducible repeat (first | refine blk_drewN ?_ _ | refine blk_drew ?_ | refine blk_alloc ?_ _)); refine blk_put (cs := #[.string ((rd_T36 l0_1 x20_1).f0), .int .i64 ((rd_T36 l0_1 x20_1).f1.f0), .int .i64 ((rd_T36 l0_1 x20_1).f1.f1), .bool false]) ?_ 3 _ rfl; (with_reducible repeat (first | refine blk_drewN ?_ _ | refine blk_drew ?_ | refine blk_alloc ?_ _)); refine blk_put (cs := #[.string ((rd_T36 l0_1 x20_1).f0), .int .i64 ((rd_T36 l0_1 x20_1).f1.f0), .int .i64 0, .bool false]) ?_ 2 _ rfl; (with_reducible repeat (first | refine blk_drewN ?_ _ | refine blk_drew ?_ | refine blk_alloc ?_ _)); refine blk_put (cs := #[.string ((rd_T36 l0_1 x20_1).f0), .int .i64 0, .int .i64 0, .bool false]) ?_ 1 _ rfl; (with_reducible repeat (first | refine blk_drewN ?_ _ | refine blk_drew ?_ | refine blk_alloc ?_ _)); refine blk_put (cs := #[.string (⟨#[]⟩ : ByteArray), .int .i64 0, .int .i64 0, .bool false]) ?_ 0 _ rfl; (with_reducible repeat (first | refine blk_drewN ?_ _ | refine blk_drew ?_ | refine blk_alloc ?_ _)); exact BK167.out⟩, ⟨by repeat (first | (with_reducible first | exact HB.out | apply below_alloc | apply pw_below_drewN | apply below_drew1 | refine below_set ?_ GE163.out | refine below_set ?_ GE165.out | refine below_set ?_ GE167.out) | exact HB.out)⟩⟩
                case rest =>
                  clear HC10
                  try clear c1
                  try clear p1
                  try clear q1
                  try clear hx1
                  try clear c2
                  try clear p2
                  try clear c3
                  try clear c3b0
                  try clear c3b1
                  try clear c3b2
                  try clear c6
                  try clear c6b0
                  try clear c7
                  try clear c7b0
                  try clear c8
                  try clear c8b0
                  try clear c9
                  try clear c9b0
                  try clear c10
                  try clear c12
                  try clear c16
                  try clear p16
                  try clear q16
                  try clear hx16
                  try clear c17
                  try clear q19
                  try clear c20
                  try clear c21
                  try clear c22
                  try clear c24
                  try clear c26
                  try clear c27
                  try clear hcz13_0
                  try clear hcz13_1
                  try clear hcz13_2
                  try clear hcz13_3
                  try clear hcz13_4
                  try clear hcz14_0
                  try clear hcz14_1
                  try clear hcz18_0
                  try clear hcz18_1
                  try clear hcz18_2
                  try clear hcz18_3
                  try clear hcz23_0
                  try clear hcz23_1
                  try clear hcz23_2
                  try clear hcz23_3
                  try clear hcz23_4
                  try clear hcz25_0
                  try clear hcz25_1
                  try clear hcz25_2
                  try clear hcz25_3
                  try clear hcz28_0
                  try clear hcz28_1
                  try clear hcz28_2
                  try clear hcz28_3
                  try clear hcz28_4
                  try clear hcz5_0
                  try clear hcz5_1
                  try clear hfz13_0
                  try clear hfz13_1
                  try clear hfz13_2
                  try clear hfz13_3
                  try clear hfz13_4
                  try clear hfz14_0
                  try clear hfz14_1
                  try clear hfz18_0
                  try clear hfz18_1
                  try clear hfz18_2
                  try clear hfz18_3
                  try clear hfz23_0
                  try clear hfz23_1
                  try clear hfz23_2
                  try clear hfz23_3
                  try clear hfz23_4
                  try clear hfz25_0
                  try clear hfz25_1
                  try clear hfz25_2
                  try clear hfz25_3
                  try clear hfz28_0
                  try clear hfz28_1
                  try clear hfz28_2
                  try clear hfz28_3
                  try clear hfz28_4
                  try clear hfz5_0
                  try clear hfz5_1
                  try clear hx164_0
                  try clear hx164_1
                  try clear hx164_2
                  try clear hx164_3
                  try clear hx164_4
                  try clear hx166_0
                  try clear hx166_1
                  try clear hx166_2
                  try clear hx166_3
                  try clear p164
                  try clear p166
                  try clear p2
                  try clear q164
                  try clear q166
                  obtain ⟨kq, x30_9, rfl, HA, HJ9, HO_6, BK163, BK165, BK167, HB⟩ := hcut
                  cases kq with
                  | zero => exact absurd HA.out (by simp [schema_Fit.j1])
                  | succ kj9 =>
                    have H := HA.out
                    clear HA
                    simp only [schema_Fit.j1] at H
                    by_cases c29 : x30_9 = true
                    · subst c29
                      have H1 : (some (([] : List (S41)), 112)) = some (r1, r2) := by rw [if_pos rfl] at H; exact H
                      clear H
                      have H := H1
                      clear H1
                      simp only [Option.some.injEq, Prod.mk.injEq] at H
                      obtain ⟨rfl, rfl⟩ := H
                      go_wp2
                      go_ret2
                      exact ⟨_, by first | rfl | (simp [errW_none, errW_some] <;> rfl) | (simp [*, errW_none, errW_some] <;> rfl), by first | exact Kd.R_nil _ _ _ _ _ | exact Kd.N_nil _ _ _ _ _ | exact Kd.V_nil _ _ _ _ _ | exact Kd.Q_nil _ _ _ _ _ | exact Kd.S_nil _ _ _ _ _, by repeat (first | (with_reducible first | exact HB.out | apply below_alloc | apply pw_below_drewN | apply below_drew1 | refine below_set ?_ GE163.out | refine below_set ?_ GE165.out | refine below_set ?_ GE167.out) | exact HB.out)⟩
                    · replace c29 := Bool.eq_false_iff.mpr c29
                      subst c29
                      have H1 : (if ((rd_T41 l1 x20_1).f1) = true then ((value_None.f ((rd_T36 l0_1 x20_1).f1.f0) ((rd_T36 l0_1 x20_1).f1.f1)).bind fun bt168 => (if x6_1.length < 2932031007402 then (schema_Fit.l0 kj9 (x6_1 ++ [(⟨(⟨bt168.1, bt168.2.1⟩ : S34), bt168.2.2.1, bt168.2.2.2.1, bt168.2.2.2.2⟩ : S41)]) l1 (l1.length : Int) (wrap64 (x20_1 + 1)) a0_0 l0_1) else (none))) else ((value_Alike.f ((rd_T41 l1 x20_1).f0.f0) ((rd_T41 l1 x20_1).f0.f1) ((rd_T36 l0_1 x20_1).f1.f0) ((rd_T36 l0_1 x20_1).f1.f1)).bind fun t176 => (if t176 = true then ((value_Cast.f kj9 ((rd_T41 l1 x20_1).f0.f0) ((rd_T41 l1 x20_1).f0.f1) ((rd_T41 l1 x20_1).f1) ((rd_T41 l1 x20_1).f2) ((rd_T41 l1 x20_1).f3) ((rd_T36 l0_1 x20_1).f1.f0) ((rd_T36 l0_1 x20_1).f1.f1)).bind fun bt177 => (if bt177.2.2.2.2.2 = 0 then (if x6_1.length < 2932031007402 then (schema_Fit.l0 kj9 (x6_1 ++ [(⟨(⟨bt177.1, bt177.2.1⟩ : S34), bt177.2.2.1, bt177.2.2.2.1, bt177.2.2.2.2.1⟩ : S41)]) l1 (l1.length : Int) (wrap64 (x20_1 + 1)) a0_0 l0_1) else (none)) else (some (([] : List (S41)), bt177.2.2.2.2.2)))) else (some (([] : List (S41)), 21))))) = some (r1, r2) := by rw [if_neg (show ¬ (false = true) by decide)] at H; exact H
                      clear H
                      have H := H1
                      clear H1
                      by_cases c30 : ((rd_T41 l1 x20_1).f1) = true
                      · rw [if_pos c30] at H
                        have c30b0 : ((rd_T41 l1 x20_1).f1) = true := c30
                        clear c30
                        replace H := Option.bind_eq_some_iff.mp H
                        obtain ⟨⟨t168, t169, t170, t171, t172⟩, A310, H⟩ := H
                        replace H : (if x6_1.length < 2932031007402 then (schema_Fit.l0 kj9 (x6_1 ++ [(⟨(⟨t168, t169⟩ : S34), t170, t171, t172⟩ : S41)]) l1 (l1.length : Int) (wrap64 (x20_1 + 1)) a0_0 l0_1) else (none)) = some (r1, r2) := H
                        (try rw [c30b0] at A310)
                        have A31 := Aside0.mk A310
                        clear A310
                        by_cases c32 : x6_1.length < 2932031007402
                        · rw [if_pos c32] at H
                          have LMc32 := Aside0.mk c32
                          clear c32
                          obtain ⟨y173, hy173⟩ : ∃ y_ : List (S41), y_ = (x6_1 ++ [(⟨(⟨t168, t169⟩ : S34), t170, t171, t172⟩ : S41)]) := ⟨_, rfl⟩
                          replace H : (schema_Fit.l0 kj9 y173 l1 (l1.length : Int) (wrap64 (x20_1 + 1)) a0_0 l0_1) = some (r1, r2) := by first | (rw [hy173]; with_reducible exact H) | (have H2_ := (Option.bind_some _ _).symm.trans H; rw [hy173]; with_reducible exact H2_) | (have H2_ := (Option.bind_some _ _).symm.trans H; with_reducible exact H2_) | with_reducible exact H | (rw [hy173]; exact H) | exact H
                          have Ny173 := Aside0.mk hy173
                          clear hy173
                          have H' := Aside0.mk H
                          clear H
                          have hnb33 := NB165_163.out
                          have hnc33 := NB163_165.out
                          have hnb34 := NB165_167.out
                          have hnc34 := NB167_165.out
                          have hcz35_0 : wc.cell? ⟨gb165, 0, none⟩ = some (.int .i64 ((rd_T41 l1 x20_1).f0.f0)) := (blk_cell BK165.out 0).trans rfl
                          have hcz35_1 : wc.cell? ⟨gb165, 1, none⟩ = some (.int .i64 ((rd_T41 l1 x20_1).f0.f1)) := (blk_cell BK165.out 1).trans rfl
                          have hcz35_2 : wc.cell? ⟨gb165, 2, none⟩ = some (.bool ((rd_T41 l1 x20_1).f1)) := (blk_cell BK165.out 2).trans rfl
                          have hcz35_3 : wc.cell? ⟨gb165, 3, none⟩ = some (.int .i64 ((rd_T41 l1 x20_1).f2)) := (blk_cell BK165.out 3).trans rfl
                          have hcz35_4 : wc.cell? ⟨gb165, 4, none⟩ = some (.string ((rd_T41 l1 x20_1).f3)) := (blk_cell BK165.out 4).trans rfl
                          have hfz35_0 := blk_frozen BK165.out 0
                          have hfz35_1 := blk_frozen BK165.out 1
                          have hfz35_2 := blk_frozen BK165.out 2
                          have hfz35_3 := blk_frozen BK165.out 3
                          have hfz35_4 := blk_frozen BK165.out 4
                          have hnb36 := NB167_163.out
                          have hnc36 := NB163_167.out
                          have hcz37_0 : wc.cell? ⟨gb167, 0, none⟩ = some (.string ((rd_T36 l0_1 x20_1).f0)) := (blk_cell BK167.out 0).trans rfl
                          have hcz37_1 : wc.cell? ⟨gb167, 1, none⟩ = some (.int .i64 ((rd_T36 l0_1 x20_1).f1.f0)) := (blk_cell BK167.out 1).trans rfl
                          have hcz37_2 : wc.cell? ⟨gb167, 2, none⟩ = some (.int .i64 ((rd_T36 l0_1 x20_1).f1.f1)) := (blk_cell BK167.out 2).trans rfl
                          have hcz37_3 : wc.cell? ⟨gb167, 3, none⟩ = some (.bool ((rd_T36 l0_1 x20_1).f2)) := (blk_cell BK167.out 3).trans rfl
                          have hfz37_0 := blk_frozen BK167.out 0
                          have hfz37_1 := blk_frozen BK167.out 1
                          have hfz37_2 := blk_frozen BK167.out 2
                          have hfz37_3 := blk_frozen BK167.out 3
                          go_wp2_with (first | ((with_reducible refine gate_callee (f := 41) rfl ?_); refine goesL_ (some 43) rfl rfl Tryz.func41 (by kernel_rfl) rfl #[.agg #[.int .i64 ((rd_T36 l0_1 x20_1).f1.f0), .int .i64 ((rd_T36 l0_1 x20_1).f1.f1)]] rfl (by (try simp only [List.map_toArray, List.map_cons, List.map_nil]); first | done | rfl | (simp only [List.length_drop, List.length_take]; rfl)) ?_; (with_reducible refine (value_None.calls ((rd_T36 l0_1 x20_1).f1.f0) ((rd_T36 l0_1 x20_1).f1.f1) t168 t169 t170 t171 t172 _ A31.out).mono ?_); rintro e w38 ⟨rfl, hb⟩; refine ⟨_, rfl, ?_⟩; have n0_ := Aside0.mk (Kd.R_below (by (with_reducible repeat (first | apply Kd.R_alloc | apply Kd.R_drewN | apply Kd.R_drew)); exact HO_6.out) hb); have n1_ := Aside0.mk (blk_below (g := gb163) (o := .cells #[.string a0_0, .slice (some ad166) l0_1.length c0_1] 24 (0, 0)) (by (with_reducible repeat (first | refine blk_drewN ?_ _ | refine blk_drew ?_ | refine blk_alloc ?_ _)); exact BK163.out) hb); have n2_ := Aside0.mk (blk_below (g := gb165) (o := .cells #[.int .i64 ((rd_T41 l1 x20_1).f0.f0), .int .i64 ((rd_T41 l1 x20_1).f0.f1), .bool ((rd_T41 l1 x20_1).f1), .int .i64 ((rd_T41 l1 x20_1).f2), .string ((rd_T41 l1 x20_1).f3)] 41 (0, 0)) (by (with_reducible repeat (first | refine blk_drewN ?_ _ | refine blk_drew ?_ | refine blk_alloc ?_ _)); exact BK165.out) hb); have n3_ := Aside0.mk (blk_below (g := gb167) (o := .cells #[.string ((rd_T36 l0_1 x20_1).f0), .int .i64 ((rd_T36 l0_1 x20_1).f1.f0), .int .i64 ((rd_T36 l0_1 x20_1).f1.f1), .bool ((rd_T36 l0_1 x20_1).f2)] 36 (0, 0)) (by (with_reducible repeat (first | refine blk_drewN ?_ _ | refine blk_drew ?_ | refine blk_alloc ?_ _)); exact BK167.out) hb); have n4_ := Aside0.mk (below_step (by repeat (first | (with_reducible first | exact HB.out | apply below_alloc | apply pw_below_drewN | apply below_drew1 | refine below_set ?_ GE163.out | refine below_set ?_ GE165.out | refine below_set ?_ GE167.out) | exact HB.out)) hb); clear HO_6; clear BK163; clear BK165; clear BK167; clear HB; have HO_6 := n0_; have BK163 := n1_; have BK165 := n2_; have BK167 := n3_; have HB := n4_; clear n0_ n1_ n2_ n3_ n4_; (try clear hb); (try clear hb2); (try clear hk); (try clear hi)) | ((with_reducible refine gate_builtin (b := .append) (xs := #[.tmp 40, .tmp 44]) rfl ?_); at_builtin; refine Kd.R_append k41 (w0 := w) w.heap.size rfl (.tmp 40) (.tmp 44) 25 41 (.agg #[(.int .i64 0), (.int .i64 0), (.bool false), (.int .i64 0), (.string ⟨#[]⟩)]) 48 rfl Tryz.underlying25 info41 rfl (by decide) (by omega) u6 x6_1 (⟨(⟨t168, t169⟩ : S34), t170, t171, t172⟩ : S41) [.int .i64 t168, .int .i64 t169, .bool t170, .int .i64 t171, .string t172] (fun k_ => k_ ≠ gb165) (fun _ => False) rfl rfl ?aP (fun _ hk => hk.elim) ?aF ?aO ?aB ?aS ?aL ?_; (case aP => exact k41_mkM _ _ _ (⟨(⟨t168, t169⟩ : S34), t170, t171, t172⟩ : S41)); (case aB => exact (by repeat (first | (with_reducible first | exact HB.out | apply below_alloc | apply pw_below_drewN | apply below_drew1 | refine below_set ?_ GE163.out | refine below_set ?_ GE165.out | refine below_set ?_ GE167.out) | exact HB.out))); (case aF => exact (fun k_ hk => Kd.freshB (g := gb165) (o := .cells #[.int .i64 ((rd_T41 l1 x20_1).f0.f0), .int .i64 ((rd_T41 l1 x20_1).f0.f1), .bool ((rd_T41 l1 x20_1).f1), .int .i64 ((rd_T41 l1 x20_1).f2), .string ((rd_T41 l1 x20_1).f3)] 41 (0, 0)) (by (with_reducible repeat (first | refine blk_drewN ?_ _ | refine blk_drew ?_ | refine blk_alloc ?_ _)); exact BK165.out) k_ hk)); (case aO => exact (by (with_reducible repeat (first | apply Kd.R_alloc | apply Kd.R_drewN | apply Kd.R_drew)); exact HO_6.out)); (case aS => exact (below_size (by repeat (first | (with_reducible first | exact HB.out | apply below_alloc | apply pw_below_drewN | apply below_drew1 | refine below_set ?_ GE163.out | refine below_set ?_ GE165.out | refine below_set ?_ GE167.out) | exact HB.out)))); (case aL => have := LMc32.out; omega); intro v174 w39 ho hb hg hat; rw [← Ny173.out] at ho; have n0_ := Aside0.mk (blk_grown (g := gb163) (o := .cells #[.string a0_0, .slice (some ad166) l0_1.length c0_1] 24 (0, 0)) (by (with_reducible repeat (first | refine blk_drewN ?_ _ | refine blk_drew ?_ | refine blk_alloc ?_ _)); exact BK163.out) hg (Kd.R_ne HO_6.out BK163.out (by decide))); have n1_ := Aside0.mk (blk_grown (g := gb165) (o := .cells #[.int .i64 ((rd_T41 l1 x20_1).f0.f0), .int .i64 ((rd_T41 l1 x20_1).f0.f1), .bool ((rd_T41 l1 x20_1).f1), .int .i64 ((rd_T41 l1 x20_1).f2), .string ((rd_T41 l1 x20_1).f3)] 41 (0, 0)) (by (with_reducible repeat (first | refine blk_drewN ?_ _ | refine blk_drew ?_ | refine blk_alloc ?_ _)); exact BK165.out) hg (Kd.R_away HO_6.out (fun _ hk => hk))); have n2_ := Aside0.mk (blk_grown (g := gb167) (o := .cells #[.string ((rd_T36 l0_1 x20_1).f0), .int .i64 ((rd_T36 l0_1 x20_1).f1.f0), .int .i64 ((rd_T36 l0_1 x20_1).f1.f1), .bool ((rd_T36 l0_1 x20_1).f2)] 36 (0, 0)) (by (with_reducible repeat (first | refine blk_drewN ?_ _ | refine blk_drew ?_ | refine blk_alloc ?_ _)); exact BK167.out) hg (Kd.R_ne HO_6.out BK167.out (by decide))); have n3_ := Aside0.mk (hb); have n4_ := Aside0.mk (ho); clear BK163; clear BK165; clear BK167; clear HB; clear HO_6; have BK163 := n0_; have BK165 := n1_; have BK167 := n2_; have HB := n3_; have HO175 := n4_; clear n0_ n1_ n2_ n3_ n4_; clear ho hb hg hat))
                          go_roundg kj9
                          case measure => have := HK1.out; have := HJ9.out; omega
                          case rel => exact ⟨(y173), (wrap64 (x20_1 + 1)), (by first | rfl | (simp; done) | (simp [*]; done)), H', ⟨by have := HK1.out; have := HJ9.out; omega⟩, ⟨by (with_reducible repeat (first | apply Kd.R_alloc | apply Kd.R_drewN | apply Kd.R_drew)); exact Kd.R_mono HO175.out (fun _ hk => trivial)⟩, ⟨by (with_reducible repeat (first | refine blk_drewN ?_ _ | refine blk_drew ?_ | refine blk_alloc ?_ _)); exact BK163.out⟩, ⟨by repeat (first | (with_reducible first | exact HB.out | apply below_alloc | apply pw_below_drewN | apply below_drew1 | refine below_set ?_ GE163.out | refine below_set ?_ GE165.out | refine below_set ?_ GE167.out) | exact HB.out)⟩⟩
                        · rw [if_neg c32] at H
                          exact absurd H (by simp)
                      · rw [if_neg c30] at H
                        have c30b0 : ((rd_T41 l1 x20_1).f1) = false := by simpa using c30
                        clear c30
                        replace H := Option.bind_eq_some_iff.mp H
                        obtain ⟨t176, A400, H⟩ := H
                        replace H : (if t176 = true then ((value_Cast.f kj9 ((rd_T41 l1 x20_1).f0.f0) ((rd_T41 l1 x20_1).f0.f1) ((rd_T41 l1 x20_1).f1) ((rd_T41 l1 x20_1).f2) ((rd_T41 l1 x20_1).f3) ((rd_T36 l0_1 x20_1).f1.f0) ((rd_T36 l0_1 x20_1).f1.f1)).bind fun bt177 => (if bt177.2.2.2.2.2 = 0 then (if x6_1.length < 2932031007402 then (schema_Fit.l0 kj9 (x6_1 ++ [(⟨(⟨bt177.1, bt177.2.1⟩ : S34), bt177.2.2.1, bt177.2.2.2.1, bt177.2.2.2.2.1⟩ : S41)]) l1 (l1.length : Int) (wrap64 (x20_1 + 1)) a0_0 l0_1) else (none)) else (some (([] : List (S41)), bt177.2.2.2.2.2)))) else (some (([] : List (S41)), 21))) = some (r1, r2) := H
                        (try rw [c30b0] at A400)
                        have A40 := Aside0.mk A400
                        clear A400
                        by_cases c41 : t176 = true
                        · subst c41
                          have H1 : ((value_Cast.f kj9 ((rd_T41 l1 x20_1).f0.f0) ((rd_T41 l1 x20_1).f0.f1) ((rd_T41 l1 x20_1).f1) ((rd_T41 l1 x20_1).f2) ((rd_T41 l1 x20_1).f3) ((rd_T36 l0_1 x20_1).f1.f0) ((rd_T36 l0_1 x20_1).f1.f1)).bind fun bt177 => (if bt177.2.2.2.2.2 = 0 then (if x6_1.length < 2932031007402 then (schema_Fit.l0 kj9 (x6_1 ++ [(⟨(⟨bt177.1, bt177.2.1⟩ : S34), bt177.2.2.1, bt177.2.2.2.1, bt177.2.2.2.2.1⟩ : S41)]) l1 (l1.length : Int) (wrap64 (x20_1 + 1)) a0_0 l0_1) else (none)) else (some (([] : List (S41)), bt177.2.2.2.2.2)))) = some (r1, r2) := by rw [if_pos rfl] at H; exact H
                          clear H
                          have H := H1
                          clear H1
                          replace H := Option.bind_eq_some_iff.mp H
                          obtain ⟨⟨t177, t178, t179, t180, t181, t182⟩, A420, H⟩ := H
                          replace H : (if t182 = 0 then (if x6_1.length < 2932031007402 then (schema_Fit.l0 kj9 (x6_1 ++ [(⟨(⟨t177, t178⟩ : S34), t179, t180, t181⟩ : S41)]) l1 (l1.length : Int) (wrap64 (x20_1 + 1)) a0_0 l0_1) else (none)) else (some (([] : List (S41)), t182))) = some (r1, r2) := H
                          (try rw [c30b0] at A420)
                          have A42 := Aside0.mk A420
                          clear A420
                          by_cases c43 : t182 = 0
                          · rw [if_pos c43] at H
                            have c43b0 : (t182 == 0) = true := beq_iff_eq.mpr c43
                            have c43b1 : (t182 != 0) = false := bne_eq_false_iff_eq.mpr c43
                            clear c43
                            by_cases c44 : x6_1.length < 2932031007402
                            · rw [if_pos c44] at H
                              have LMc44 := Aside0.mk c44
                              clear c44
                              obtain ⟨y184, hy184⟩ : ∃ y_ : List (S41), y_ = (x6_1 ++ [(⟨(⟨t177, t178⟩ : S34), t179, t180, t181⟩ : S41)]) := ⟨_, rfl⟩
                              replace H : (schema_Fit.l0 kj9 y184 l1 (l1.length : Int) (wrap64 (x20_1 + 1)) a0_0 l0_1) = some (r1, r2) := by first | (rw [hy184]; with_reducible exact H) | (have H2_ := (Option.bind_some _ _).symm.trans H; rw [hy184]; with_reducible exact H2_) | (have H2_ := (Option.bind_some _ _).symm.trans H; with_reducible exact H2_) | with_reducible exact H | (rw [hy184]; exact H) | exact H
                              have Ny184 := Aside0.mk hy184
                              clear hy184
                              have H' := Aside0.mk H
                              clear H
                              have hnb45 := NB165_163.out
                              have hnc45 := NB163_165.out
                              have hnb46 := NB165_167.out
                              have hnc46 := NB167_165.out
                              have hcz47_0 : wc.cell? ⟨gb165, 0, none⟩ = some (.int .i64 ((rd_T41 l1 x20_1).f0.f0)) := (blk_cell BK165.out 0).trans rfl
                              have hcz47_1 : wc.cell? ⟨gb165, 1, none⟩ = some (.int .i64 ((rd_T41 l1 x20_1).f0.f1)) := (blk_cell BK165.out 1).trans rfl
                              have hcz47_2 : wc.cell? ⟨gb165, 2, none⟩ = some (.bool ((rd_T41 l1 x20_1).f1)) := (blk_cell BK165.out 2).trans rfl
                              have hcz47_3 : wc.cell? ⟨gb165, 3, none⟩ = some (.int .i64 ((rd_T41 l1 x20_1).f2)) := (blk_cell BK165.out 3).trans rfl
                              have hcz47_4 : wc.cell? ⟨gb165, 4, none⟩ = some (.string ((rd_T41 l1 x20_1).f3)) := (blk_cell BK165.out 4).trans rfl
                              have hfz47_0 := blk_frozen BK165.out 0
                              have hfz47_1 := blk_frozen BK165.out 1
                              have hfz47_2 := blk_frozen BK165.out 2
                              have hfz47_3 := blk_frozen BK165.out 3
                              have hfz47_4 := blk_frozen BK165.out 4
                              have hnb48 := NB167_163.out
                              have hnc48 := NB163_167.out
                              have hcz49_0 : wc.cell? ⟨gb167, 0, none⟩ = some (.string ((rd_T36 l0_1 x20_1).f0)) := (blk_cell BK167.out 0).trans rfl
                              have hcz49_1 : wc.cell? ⟨gb167, 1, none⟩ = some (.int .i64 ((rd_T36 l0_1 x20_1).f1.f0)) := (blk_cell BK167.out 1).trans rfl
                              have hcz49_2 : wc.cell? ⟨gb167, 2, none⟩ = some (.int .i64 ((rd_T36 l0_1 x20_1).f1.f1)) := (blk_cell BK167.out 2).trans rfl
                              have hcz49_3 : wc.cell? ⟨gb167, 3, none⟩ = some (.bool ((rd_T36 l0_1 x20_1).f2)) := (blk_cell BK167.out 3).trans rfl
                              have hfz49_0 := blk_frozen BK167.out 0
                              have hfz49_1 := blk_frozen BK167.out 1
                              have hfz49_2 := blk_frozen BK167.out 2
                              have hfz49_3 := blk_frozen BK167.out 3
                              go_wp2_with (first | ((with_reducible refine gate_callee (f := 42) rfl ?_); refine goesL_ (some 51) rfl rfl Tryz.func42 (by kernel_rfl) rfl #[.agg #[.int .i64 ((rd_T41 l1 x20_1).f0.f0), .int .i64 ((rd_T41 l1 x20_1).f0.f1)], .agg #[.int .i64 ((rd_T36 l0_1 x20_1).f1.f0), .int .i64 ((rd_T36 l0_1 x20_1).f1.f1)]] rfl (by (try simp only [List.map_toArray, List.map_cons, List.map_nil]); first | done | rfl | (simp only [List.length_drop, List.length_take]; rfl)) ?_; (with_reducible refine (value_Alike.calls ((rd_T41 l1 x20_1).f0.f0) ((rd_T41 l1 x20_1).f0.f1) ((rd_T36 l0_1 x20_1).f1.f0) ((rd_T36 l0_1 x20_1).f1.f1) true _ A40.out).mono ?_); rintro e w50 ⟨rfl, hb⟩; refine ⟨_, rfl, ?_⟩; have n0_ := Aside0.mk (Kd.R_below (by (with_reducible repeat (first | apply Kd.R_alloc | apply Kd.R_drewN | apply Kd.R_drew)); exact HO_6.out) hb); have n1_ := Aside0.mk (blk_below (g := gb163) (o := .cells #[.string a0_0, .slice (some ad166) l0_1.length c0_1] 24 (0, 0)) (by (with_reducible repeat (first | refine blk_drewN ?_ _ | refine blk_drew ?_ | refine blk_alloc ?_ _)); exact BK163.out) hb); have n2_ := Aside0.mk (blk_below (g := gb165) (o := .cells #[.int .i64 ((rd_T41 l1 x20_1).f0.f0), .int .i64 ((rd_T41 l1 x20_1).f0.f1), .bool ((rd_T41 l1 x20_1).f1), .int .i64 ((rd_T41 l1 x20_1).f2), .string ((rd_T41 l1 x20_1).f3)] 41 (0, 0)) (by (with_reducible repeat (first | refine blk_drewN ?_ _ | refine blk_drew ?_ | refine blk_alloc ?_ _)); exact BK165.out) hb); have n3_ := Aside0.mk (blk_below (g := gb167) (o := .cells #[.string ((rd_T36 l0_1 x20_1).f0), .int .i64 ((rd_T36 l0_1 x20_1).f1.f0), .int .i64 ((rd_T36 l0_1 x20_1).f1.f1), .bool ((rd_T36 l0_1 x20_1).f2)] 36 (0, 0)) (by (with_reducible repeat (first | refine blk_drewN ?_ _ | refine blk_drew ?_ | refine blk_alloc ?_ _)); exact BK167.out) hb); have n4_ := Aside0.mk (below_step (by repeat (first | (with_reducible first | exact HB.out | apply below_alloc | apply pw_below_drewN | apply below_drew1 | refine below_set ?_ GE163.out | refine below_set ?_ GE165.out | refine below_set ?_ GE167.out) | exact HB.out)) hb); clear HO_6; clear BK163; clear BK165; clear BK167; clear HB; have HO_6 := n0_; have BK163 := n1_; have BK165 := n2_; have BK167 := n3_; have HB := n4_; clear n0_ n1_ n2_ n3_ n4_; (try clear hb); (try clear hb2); (try clear hk); (try clear hi); have hcz51_0 : w50.cell? ⟨gb165, 0, none⟩ = some (.int .i64 ((rd_T41 l1 x20_1).f0.f0)) := (blk_cell BK165.out 0).trans rfl; have hcz51_1 : w50.cell? ⟨gb165, 1, none⟩ = some (.int .i64 ((rd_T41 l1 x20_1).f0.f1)) := (blk_cell BK165.out 1).trans rfl; have hcz51_2 : w50.cell? ⟨gb165, 2, none⟩ = some (.bool ((rd_T41 l1 x20_1).f1)) := (blk_cell BK165.out 2).trans rfl; have hcz51_3 : w50.cell? ⟨gb165, 3, none⟩ = some (.int .i64 ((rd_T41 l1 x20_1).f2)) := (blk_cell BK165.out 3).trans rfl; have hcz51_4 : w50.cell? ⟨gb165, 4, none⟩ = some (.string ((rd_T41 l1 x20_1).f3)) := (blk_cell BK165.out 4).trans rfl; have hfz51_0 := blk_frozen BK165.out 0; have hfz51_1 := blk_frozen BK165.out 1; have hfz51_2 := blk_frozen BK165.out 2; have hfz51_3 := blk_frozen BK165.out 3; have hfz51_4 := blk_frozen BK165.out 4; have hcz52_0 : w50.cell? ⟨gb167, 0, none⟩ = some (.string ((rd_T36 l0_1 x20_1).f0)) := (blk_cell BK167.out 0).trans rfl; have hcz52_1 : w50.cell? ⟨gb167, 1, none⟩ = some (.int .i64 ((rd_T36 l0_1 x20_1).f1.f0)) := (blk_cell BK167.out 1).trans rfl; have hcz52_2 : w50.cell? ⟨gb167, 2, none⟩ = some (.int .i64 ((rd_T36 l0_1 x20_1).f1.f1)) := (blk_cell BK167.out 2).trans rfl; have hcz52_3 : w50.cell? ⟨gb167, 3, none⟩ = some (.bool ((rd_T36 l0_1 x20_1).f2)) := (blk_cell BK167.out 3).trans rfl; have hfz52_0 := blk_frozen BK167.out 0; have hfz52_1 := blk_frozen BK167.out 1; have hfz52_2 := blk_frozen BK167.out 2; have hfz52_3 := blk_frozen BK167.out 3) | ((with_reducible refine gate_callee (f := 43) rfl ?_); refine goesL_ (some 57) rfl rfl Tryz.func43 (by kernel_rfl) rfl #[.agg #[.int .i64 ((rd_T41 l1 x20_1).f0.f0), .int .i64 ((rd_T41 l1 x20_1).f0.f1), .bool false, .int .i64 ((rd_T41 l1 x20_1).f2), .string ((rd_T41 l1 x20_1).f3)], .agg #[.int .i64 ((rd_T36 l0_1 x20_1).f1.f0), .int .i64 ((rd_T36 l0_1 x20_1).f1.f1)]] rfl (by (try simp only [List.map_toArray, List.map_cons, List.map_nil]); first | done | rfl | (simp only [List.length_drop, List.length_take]; rfl)) ?_; (with_reducible refine (value_Cast.calls kj9 ((rd_T41 l1 x20_1).f0.f0) ((rd_T41 l1 x20_1).f0.f1) false ((rd_T41 l1 x20_1).f2) ((rd_T41 l1 x20_1).f3) ((rd_T36 l0_1 x20_1).f1.f0) ((rd_T36 l0_1 x20_1).f1.f1) t177 t178 t179 t180 t181 t182 _ A42.out).mono ?_); rintro e w53 ⟨rfl, hb⟩; refine ⟨_, rfl, ?_⟩; have n0_ := Aside0.mk (Kd.R_below (by (with_reducible repeat (first | apply Kd.R_alloc | apply Kd.R_drewN | apply Kd.R_drew)); exact HO_6.out) hb); have n1_ := Aside0.mk (blk_below (g := gb163) (o := .cells #[.string a0_0, .slice (some ad166) l0_1.length c0_1] 24 (0, 0)) (by (with_reducible repeat (first | refine blk_drewN ?_ _ | refine blk_drew ?_ | refine blk_alloc ?_ _)); exact BK163.out) hb); have n2_ := Aside0.mk (blk_below (g := gb165) (o := .cells #[.int .i64 ((rd_T41 l1 x20_1).f0.f0), .int .i64 ((rd_T41 l1 x20_1).f0.f1), .bool ((rd_T41 l1 x20_1).f1), .int .i64 ((rd_T41 l1 x20_1).f2), .string ((rd_T41 l1 x20_1).f3)] 41 (0, 0)) (by (with_reducible repeat (first | refine blk_drewN ?_ _ | refine blk_drew ?_ | refine blk_alloc ?_ _)); exact BK165.out) hb); have n3_ := Aside0.mk (blk_below (g := gb167) (o := .cells #[.string ((rd_T36 l0_1 x20_1).f0), .int .i64 ((rd_T36 l0_1 x20_1).f1.f0), .int .i64 ((rd_T36 l0_1 x20_1).f1.f1), .bool ((rd_T36 l0_1 x20_1).f2)] 36 (0, 0)) (by (with_reducible repeat (first | refine blk_drewN ?_ _ | refine blk_drew ?_ | refine blk_alloc ?_ _)); exact BK167.out) hb); have n4_ := Aside0.mk (below_step (by repeat (first | (with_reducible first | exact HB.out | apply below_alloc | apply pw_below_drewN | apply below_drew1 | refine below_set ?_ GE163.out | refine below_set ?_ GE165.out | refine below_set ?_ GE167.out) | exact HB.out)) hb); clear HO_6; clear BK163; clear BK165; clear BK167; clear HB; have HO_6 := n0_; have BK163 := n1_; have BK165 := n2_; have BK167 := n3_; have HB := n4_; clear n0_ n1_ n2_ n3_ n4_; (try clear hb); (try clear hb2); (try clear hk); (try clear hi)) | ((with_reducible refine gate_dst (N := 10) rfl ?_); refine box_event ?hg (N := 10) ?hd (cs := #[.int .i64 0, .int .i64 0, .bool false, .int .i64 0, .string (⟨#[]⟩ : ByteArray)]) (t := 41) ?hr ?_; (case hd => rfl); (case hg => rfl); (case hr => first | (go_simp; done) | (go_simp; rfl)); intro gb183 hg w54 hbox hb; have n0_ := Aside0.mk (Kd.R_below (Kd.R_elderB (by (with_reducible repeat (first | apply Kd.R_alloc | apply Kd.R_drewN | apply Kd.R_drew)); exact HO_6.out) gb183 (Nat.le_of_eq hg.symm)) hb); have n1_ := Aside0.mk (blk_below (g := gb163) (o := .cells #[.string a0_0, .slice (some ad166) l0_1.length c0_1] 24 (0, 0)) (by (with_reducible repeat (first | refine blk_drewN ?_ _ | refine blk_drew ?_ | refine blk_alloc ?_ _)); exact BK163.out) hb); have n2_ := Aside0.mk (blk_below (g := gb165) (o := .cells #[.int .i64 ((rd_T41 l1 x20_1).f0.f0), .int .i64 ((rd_T41 l1 x20_1).f0.f1), .bool ((rd_T41 l1 x20_1).f1), .int .i64 ((rd_T41 l1 x20_1).f2), .string ((rd_T41 l1 x20_1).f3)] 41 (0, 0)) (by (with_reducible repeat (first | refine blk_drewN ?_ _ | refine blk_drew ?_ | refine blk_alloc ?_ _)); exact BK165.out) hb); have n3_ := Aside0.mk (blk_below (g := gb167) (o := .cells #[.string ((rd_T36 l0_1 x20_1).f0), .int .i64 ((rd_T36 l0_1 x20_1).f1.f0), .int .i64 ((rd_T36 l0_1 x20_1).f1.f1), .bool ((rd_T36 l0_1 x20_1).f2)] 36 (0, 0)) (by (with_reducible repeat (first | refine blk_drewN ?_ _ | refine blk_drew ?_ | refine blk_alloc ?_ _)); exact BK167.out) hb); have n4_ := Aside0.mk (below_step (by repeat (first | (with_reducible first | exact HB.out | apply below_alloc | apply pw_below_drewN | apply below_drew1 | refine below_set ?_ GE163.out | refine below_set ?_ GE165.out | refine below_set ?_ GE167.out) | exact HB.out)) hb); have n5_ := Aside0.mk (hbox); have n6_ := Aside0.mk ((by rw [hg]; exact (below_size (by repeat (first | (with_reducible first | exact HB.out | apply below_alloc | apply pw_below_drewN | apply below_drew1 | refine below_set ?_ GE163.out | refine below_set ?_ GE165.out | refine below_set ?_ GE167.out) | exact HB.out))) : w.heap.size ≤ gb183)); have n7_ := Aside0.mk ((by rw [hg]; exact (below_size (by repeat (first | (with_reducible first | exact HB.out | apply below_alloc | apply pw_below_drewN | apply below_drew1 | refine below_set ?_ GE163.out | refine below_set ?_ GE165.out | refine below_set ?_ GE167.out) | exact HB.out))) : w.heap.size ≤ gb183)); have n8_ := Aside0.mk ((by rw [hg]; exact Nat.ne_of_lt (blk_lt (g := gb163) (o := .cells #[.string a0_0, .slice (some ad166) l0_1.length c0_1] 24 (0, 0)) (by (with_reducible repeat (first | refine blk_drewN ?_ _ | refine blk_drew ?_ | refine blk_alloc ?_ _)); exact BK163.out)) : gb163 ≠ gb183)); have n9_ := Aside0.mk ((by rw [hg]; exact Nat.ne_of_gt (blk_lt (g := gb163) (o := .cells #[.string a0_0, .slice (some ad166) l0_1.length c0_1] 24 (0, 0)) (by (with_reducible repeat (first | refine blk_drewN ?_ _ | refine blk_drew ?_ | refine blk_alloc ?_ _)); exact BK163.out)) : gb183 ≠ gb163)); have n10_ := Aside0.mk ((by rw [hg]; exact Nat.ne_of_lt (blk_lt (g := gb165) (o := .cells #[.int .i64 ((rd_T41 l1 x20_1).f0.f0), .int .i64 ((rd_T41 l1 x20_1).f0.f1), .bool ((rd_T41 l1 x20_1).f1), .int .i64 ((rd_T41 l1 x20_1).f2), .string ((rd_T41 l1 x20_1).f3)] 41 (0, 0)) (by (with_reducible repeat (first | refine blk_drewN ?_ _ | refine blk_drew ?_ | refine blk_alloc ?_ _)); exact BK165.out)) : gb165 ≠ gb183)); have n11_ := Aside0.mk ((by rw [hg]; exact Nat.ne_of_gt (blk_lt (g := gb165) (o := .cells #[.int .i64 ((rd_T41 l1 x20_1).f0.f0), .int .i64 ((rd_T41 l1 x20_1).f0.f1), .bool ((rd_T41 l1 x20_1).f1), .int .i64 ((rd_T41 l1 x20_1).f2), .string ((rd_T41 l1 x20_1).f3)] 41 (0, 0)) (by (with_reducible repeat (first | refine blk_drewN ?_ _ | refine blk_drew ?_ | refine blk_alloc ?_ _)); exact BK165.out)) : gb183 ≠ gb165)); have n12_ := Aside0.mk ((by rw [hg]; exact Nat.ne_of_lt (blk_lt (g := gb167) (o := .cells #[.string ((rd_T36 l0_1 x20_1).f0), .int .i64 ((rd_T36 l0_1 x20_1).f1.f0), .int .i64 ((rd_T36 l0_1 x20_1).f1.f1), .bool ((rd_T36 l0_1 x20_1).f2)] 36 (0, 0)) (by (with_reducible repeat (first | refine blk_drewN ?_ _ | refine blk_drew ?_ | refine blk_alloc ?_ _)); exact BK167.out)) : gb167 ≠ gb183)); have n13_ := Aside0.mk ((by rw [hg]; exact Nat.ne_of_gt (blk_lt (g := gb167) (o := .cells #[.string ((rd_T36 l0_1 x20_1).f0), .int .i64 ((rd_T36 l0_1 x20_1).f1.f0), .int .i64 ((rd_T36 l0_1 x20_1).f1.f1), .bool ((rd_T36 l0_1 x20_1).f2)] 36 (0, 0)) (by (with_reducible repeat (first | refine blk_drewN ?_ _ | refine blk_drew ?_ | refine blk_alloc ?_ _)); exact BK167.out)) : gb183 ≠ gb167)); clear HO_6; clear BK163; clear BK165; clear BK167; clear HB; have HO_6 := n0_; have BK163 := n1_; have BK165 := n2_; have BK167 := n3_; have HB := n4_; have BK183 := n5_; have GW183 := n6_; have GE183 := n7_; have NB163_183 := n8_; have NB183_163 := n9_; have NB165_183 := n10_; have NB183_165 := n11_; have NB167_183 := n12_; have NB183_167 := n13_; clear n0_ n1_ n2_ n3_ n4_ n5_ n6_ n7_ n8_ n9_ n10_ n11_ n12_ n13_; clear hb hbox hg; have hnb55 := NB183_163.out; have hnc55 := NB163_183.out; have hnb56 := NB183_165.out; have hnc56 := NB165_183.out; have hnb57 := NB183_167.out; have hnc57 := NB167_183.out; have hcz58_0 : w54.cell? ⟨gb183, 0, none⟩ = some (.int .i64 0) := (blk_cell BK183.out 0).trans rfl; have hcz58_1 : w54.cell? ⟨gb183, 1, none⟩ = some (.int .i64 0) := (blk_cell BK183.out 1).trans rfl; have hcz58_2 : w54.cell? ⟨gb183, 2, none⟩ = some (.bool false) := (blk_cell BK183.out 2).trans rfl; have hcz58_3 : w54.cell? ⟨gb183, 3, none⟩ = some (.int .i64 0) := (blk_cell BK183.out 3).trans rfl; have hcz58_4 : w54.cell? ⟨gb183, 4, none⟩ = some (.string (⟨#[]⟩ : ByteArray)) := (blk_cell BK183.out 4).trans rfl; have hfz58_0 := blk_frozen BK183.out 0; have hfz58_1 := blk_frozen BK183.out 1; have hfz58_2 := blk_frozen BK183.out 2; have hfz58_3 := blk_frozen BK183.out 3; have hfz58_4 := blk_frozen BK183.out 4) | ((with_reducible refine gate_builtin (b := .append) (xs := #[.tmp 63, .tmp 65]) rfl ?_); at_builtin; refine Kd.R_append k41 (w0 := w) w.heap.size rfl (.tmp 63) (.tmp 65) 25 41 (.agg #[(.int .i64 0), (.int .i64 0), (.bool false), (.int .i64 0), (.string ⟨#[]⟩)]) 48 rfl Tryz.underlying25 info41 rfl (by decide) (by omega) u6 x6_1 (⟨(⟨t177, t178⟩ : S34), t179, t180, t181⟩ : S41) [.int .i64 t177, .int .i64 t178, .bool t179, .int .i64 t180, .string t181] (fun k_ => k_ ≠ gb165 ∧ k_ ≠ gb183) (fun _ => False) rfl (by first | (go_simp; done) | (go_simp; rfl)) ?aP (fun _ hk => hk.elim) ?aF ?aO ?aB ?aS ?aL ?_; (case aP => exact k41_mkM _ _ _ (⟨(⟨t177, t178⟩ : S34), t179, t180, t181⟩ : S41)); (case aB => exact (by repeat (first | (with_reducible first | exact HB.out | apply below_alloc | apply pw_below_drewN | apply below_drew1 | refine below_set ?_ GE163.out | refine below_set ?_ GE165.out | refine below_set ?_ GE167.out | refine below_set ?_ GE183.out) | exact HB.out))); (case aF => exact (fun k_ hk => ⟨Kd.freshB (g := gb165) (o := .cells #[.int .i64 ((rd_T41 l1 x20_1).f0.f0), .int .i64 ((rd_T41 l1 x20_1).f0.f1), .bool ((rd_T41 l1 x20_1).f1), .int .i64 ((rd_T41 l1 x20_1).f2), .string ((rd_T41 l1 x20_1).f3)] 41 (0, 0)) (by (with_reducible repeat (first | refine blk_drewN ?_ _ | refine blk_drew ?_ | refine blk_alloc ?_ _)); refine blk_far ?_ NB165_183.out _; (with_reducible repeat (first | refine blk_drewN ?_ _ | refine blk_drew ?_ | refine blk_alloc ?_ _)); refine blk_far ?_ NB165_183.out _; (with_reducible repeat (first | refine blk_drewN ?_ _ | refine blk_drew ?_ | refine blk_alloc ?_ _)); refine blk_far ?_ NB165_183.out _; (with_reducible repeat (first | refine blk_drewN ?_ _ | refine blk_drew ?_ | refine blk_alloc ?_ _)); refine blk_far ?_ NB165_183.out _; (with_reducible repeat (first | refine blk_drewN ?_ _ | refine blk_drew ?_ | refine blk_alloc ?_ _)); refine blk_far ?_ NB165_183.out _; (with_reducible repeat (first | refine blk_drewN ?_ _ | refine blk_drew ?_ | refine blk_alloc ?_ _)); exact BK165.out) k_ hk, Kd.freshB (g := gb183) (o := .cells #[.int .i64 t177, .int .i64 t178, .bool t179, .int .i64 t180, .string t181] 41 (0, 0)) (by (with_reducible repeat (first | refine blk_drewN ?_ _ | refine blk_drew ?_ | refine blk_alloc ?_ _)); refine blk_put (cs := #[.int .i64 t177, .int .i64 t178, .bool t179, .int .i64 t180, .string (⟨#[]⟩ : ByteArray)]) ?_ 4 _ rfl; (with_reducible repeat (first | refine blk_drewN ?_ _ | refine blk_drew ?_ | refine blk_alloc ?_ _)); refine blk_put (cs := #[.int .i64 t177, .int .i64 t178, .bool t179, .int .i64 0, .string (⟨#[]⟩ : ByteArray)]) ?_ 3 _ rfl; (with_reducible repeat (first | refine blk_drewN ?_ _ | refine blk_drew ?_ | refine blk_alloc ?_ _)); refine blk_put (cs := #[.int .i64 t177, .int .i64 t178, .bool false, .int .i64 0, .string (⟨#[]⟩ : ByteArray)]) ?_ 2 _ rfl; (with_reducible repeat (first | refine blk_drewN ?_ _ | refine blk_drew ?_ | refine blk_alloc ?_ _)); refine blk_put (cs := #[.int .i64 t177, .int .i64 0, .bool false, .int .i64 0, .string (⟨#[]⟩ : ByteArray)]) ?_ 1 _ rfl; (with_reducible repeat (first | refine blk_drewN ?_ _ | refine blk_drew ?_ | refine blk_alloc ?_ _)); refine blk_put (cs := #[.int .i64 0, .int .i64 0, .bool false, .int .i64 0, .string (⟨#[]⟩ : ByteArray)]) ?_ 0 _ rfl; (with_reducible repeat (first | refine blk_drewN ?_ _ | refine blk_drew ?_ | refine blk_alloc ?_ _)); exact BK183.out) k_ hk⟩)); (case aO => exact (by (with_reducible repeat (first | apply Kd.R_alloc | apply Kd.R_drewN | apply Kd.R_drew)); exact Kd.R_mono (Kd.R_far (p := ⟨gb183, 4, none⟩) (Kd.R_far (p := ⟨gb183, 3, none⟩) (Kd.R_far (p := ⟨gb183, 2, none⟩) (Kd.R_far (p := ⟨gb183, 1, none⟩) (Kd.R_far (p := ⟨gb183, 0, none⟩) (Kd.R_mono HO_6.out (fun k_ hk => (⟨hk, hk.2⟩ : _ ∧ k_ ≠ gb183))) (fun _ hk => hk.2) (.int .i64 t177)) (fun _ hk => hk.2) (.int .i64 t178)) (fun _ hk => hk.2) (.bool t179)) (fun _ hk => hk.2) (.int .i64 t180)) (fun _ hk => hk.2) (.string t181)) (fun _ hk => ⟨hk.1.1, hk.1.2⟩))); (case aS => exact (below_size (by repeat (first | (with_reducible first | exact HB.out | apply below_alloc | apply pw_below_drewN | apply below_drew1 | refine below_set ?_ GE163.out | refine below_set ?_ GE165.out | refine below_set ?_ GE167.out | refine below_set ?_ GE183.out) | exact HB.out)))); (case aL => have := LMc44.out; omega); intro v185 w59 ho hb hg hat; rw [← Ny184.out] at ho; have n0_ := Aside0.mk (blk_grown (g := gb163) (o := .cells #[.string a0_0, .slice (some ad166) l0_1.length c0_1] 24 (0, 0)) (by (with_reducible repeat (first | refine blk_drewN ?_ _ | refine blk_drew ?_ | refine blk_alloc ?_ _)); refine blk_far ?_ NB163_183.out _; (with_reducible repeat (first | refine blk_drewN ?_ _ | refine blk_drew ?_ | refine blk_alloc ?_ _)); refine blk_far ?_ NB163_183.out _; (with_reducible repeat (first | refine blk_drewN ?_ _ | refine blk_drew ?_ | refine blk_alloc ?_ _)); refine blk_far ?_ NB163_183.out _; (with_reducible repeat (first | refine blk_drewN ?_ _ | refine blk_drew ?_ | refine blk_alloc ?_ _)); refine blk_far ?_ NB163_183.out _; (with_reducible repeat (first | refine blk_drewN ?_ _ | refine blk_drew ?_ | refine blk_alloc ?_ _)); refine blk_far ?_ NB163_183.out _; (with_reducible repeat (first | refine blk_drewN ?_ _ | refine blk_drew ?_ | refine blk_alloc ?_ _)); exact BK163.out) hg (Kd.R_ne HO_6.out BK163.out (by decide))); have n1_ := Aside0.mk (blk_grown (g := gb165) (o := .cells #[.int .i64 ((rd_T41 l1 x20_1).f0.f0), .int .i64 ((rd_T41 l1 x20_1).f0.f1), .bool ((rd_T41 l1 x20_1).f1), .int .i64 ((rd_T41 l1 x20_1).f2), .string ((rd_T41 l1 x20_1).f3)] 41 (0, 0)) (by (with_reducible repeat (first | refine blk_drewN ?_ _ | refine blk_drew ?_ | refine blk_alloc ?_ _)); refine blk_far ?_ NB165_183.out _; (with_reducible repeat (first | refine blk_drewN ?_ _ | refine blk_drew ?_ | refine blk_alloc ?_ _)); refine blk_far ?_ NB165_183.out _; (with_reducible repeat (first | refine blk_drewN ?_ _ | refine blk_drew ?_ | refine blk_alloc ?_ _)); refine blk_far ?_ NB165_183.out _; (with_reducible repeat (first | refine blk_drewN ?_ _ | refine blk_drew ?_ | refine blk_alloc ?_ _)); refine blk_far ?_ NB165_183.out _; (with_reducible repeat (first | refine blk_drewN ?_ _ | refine blk_drew ?_ | refine blk_alloc ?_ _)); refine blk_far ?_ NB165_183.out _; (with_reducible repeat (first | refine blk_drewN ?_ _ | refine blk_drew ?_ | refine blk_alloc ?_ _)); exact BK165.out) hg (Kd.R_away HO_6.out (fun _ hk => hk.1))); have n2_ := Aside0.mk (blk_grown (g := gb167) (o := .cells #[.string ((rd_T36 l0_1 x20_1).f0), .int .i64 ((rd_T36 l0_1 x20_1).f1.f0), .int .i64 ((rd_T36 l0_1 x20_1).f1.f1), .bool ((rd_T36 l0_1 x20_1).f2)] 36 (0, 0)) (by (with_reducible repeat (first | refine blk_drewN ?_ _ | refine blk_drew ?_ | refine blk_alloc ?_ _)); refine blk_far ?_ NB167_183.out _; (with_reducible repeat (first | refine blk_drewN ?_ _ | refine blk_drew ?_ | refine blk_alloc ?_ _)); refine blk_far ?_ NB167_183.out _; (with_reducible repeat (first | refine blk_drewN ?_ _ | refine blk_drew ?_ | refine blk_alloc ?_ _)); refine blk_far ?_ NB167_183.out _; (with_reducible repeat (first | refine blk_drewN ?_ _ | refine blk_drew ?_ | refine blk_alloc ?_ _)); refine blk_far ?_ NB167_183.out _; (with_reducible repeat (first | refine blk_drewN ?_ _ | refine blk_drew ?_ | refine blk_alloc ?_ _)); refine blk_far ?_ NB167_183.out _; (with_reducible repeat (first | refine blk_drewN ?_ _ | refine blk_drew ?_ | refine blk_alloc ?_ _)); exact BK167.out) hg (Kd.R_ne HO_6.out BK167.out (by decide))); have n3_ := Aside0.mk (blk_grown (g := gb183) (o := .cells #[.int .i64 t177, .int .i64 t178, .bool t179, .int .i64 t180, .string t181] 41 (0, 0)) (by (with_reducible repeat (first | refine blk_drewN ?_ _ | refine blk_drew ?_ | refine blk_alloc ?_ _)); refine blk_put (cs := #[.int .i64 t177, .int .i64 t178, .bool t179, .int .i64 t180, .string (⟨#[]⟩ : ByteArray)]) ?_ 4 _ rfl; (with_reducible repeat (first | refine blk_drewN ?_ _ | refine blk_drew ?_ | refine blk_alloc ?_ _)); refine blk_put (cs := #[.int .i64 t177, .int .i64 t178, .bool t179, .int .i64 0, .string (⟨#[]⟩ : ByteArray)]) ?_ 3 _ rfl; (with_reducible repeat (first | refine blk_drewN ?_ _ | refine blk_drew ?_ | refine blk_alloc ?_ _)); refine blk_put (cs := #[.int .i64 t177, .int .i64 t178, .bool false, .int .i64 0, .string (⟨#[]⟩ : ByteArray)]) ?_ 2 _ rfl; (with_reducible repeat (first | refine blk_drewN ?_ _ | refine blk_drew ?_ | refine blk_alloc ?_ _)); refine blk_put (cs := #[.int .i64 t177, .int .i64 0, .bool false, .int .i64 0, .string (⟨#[]⟩ : ByteArray)]) ?_ 1 _ rfl; (with_reducible repeat (first | refine blk_drewN ?_ _ | refine blk_drew ?_ | refine blk_alloc ?_ _)); refine blk_put (cs := #[.int .i64 0, .int .i64 0, .bool false, .int .i64 0, .string (⟨#[]⟩ : ByteArray)]) ?_ 0 _ rfl; (with_reducible repeat (first | refine blk_drewN ?_ _ | refine blk_drew ?_ | refine blk_alloc ?_ _)); exact BK183.out) hg (Kd.R_away HO_6.out (fun _ hk => hk.2))); have n4_ := Aside0.mk (hb); have n5_ := Aside0.mk (ho); clear BK163; clear BK165; clear BK167; clear BK183; clear HB; clear HO_6; have BK163 := n0_; have BK165 := n1_; have BK167 := n2_; have BK183 := n3_; have HB := n4_; have HO186 := n5_; clear n0_ n1_ n2_ n3_ n4_ n5_; clear ho hb hg hat))
                              go_roundg kj9
                              case measure => have := HK1.out; have := HJ9.out; omega
                              case rel => exact ⟨(y184), (wrap64 (x20_1 + 1)), (by first | rfl | (simp; done) | (simp [*]; done)), H', ⟨by have := HK1.out; have := HJ9.out; omega⟩, ⟨by (with_reducible repeat (first | apply Kd.R_alloc | apply Kd.R_drewN | apply Kd.R_drew)); exact Kd.R_mono HO186.out (fun _ hk => trivial)⟩, ⟨by (with_reducible repeat (first | refine blk_drewN ?_ _ | refine blk_drew ?_ | refine blk_alloc ?_ _)); exact BK163.out⟩, ⟨by repeat (first | (with_reducible first | exact HB.out | apply below_alloc | apply pw_below_drewN | apply below_drew1 | refine below_set ?_ GE163.out | refine below_set ?_ GE165.out | refine below_set ?_ GE167.out | refine below_set ?_ GE183.out) | exact HB.out)⟩⟩
                            · rw [if_neg c44] at H
                              exact absurd H (by simp)
                          · rw [if_neg c43] at H
                            have c43b0 : (t182 == 0) = false := beq_eq_false_iff_ne.mpr c43
                            have c43b1 : (t182 != 0) = true := bne_iff_ne.mpr c43
                            simp only [Option.some.injEq, Prod.mk.injEq] at H
                            obtain ⟨rfl, rfl⟩ := H
                            have hnb60 := NB165_163.out
                            have hnc60 := NB163_165.out
                            have hnb61 := NB165_167.out
                            have hnc61 := NB167_165.out
                            have hcz62_0 : wc.cell? ⟨gb165, 0, none⟩ = some (.int .i64 ((rd_T41 l1 x20_1).f0.f0)) := (blk_cell BK165.out 0).trans rfl
                            have hcz62_1 : wc.cell? ⟨gb165, 1, none⟩ = some (.int .i64 ((rd_T41 l1 x20_1).f0.f1)) := (blk_cell BK165.out 1).trans rfl
                            have hcz62_2 : wc.cell? ⟨gb165, 2, none⟩ = some (.bool ((rd_T41 l1 x20_1).f1)) := (blk_cell BK165.out 2).trans rfl
                            have hcz62_3 : wc.cell? ⟨gb165, 3, none⟩ = some (.int .i64 ((rd_T41 l1 x20_1).f2)) := (blk_cell BK165.out 3).trans rfl
                            have hcz62_4 : wc.cell? ⟨gb165, 4, none⟩ = some (.string ((rd_T41 l1 x20_1).f3)) := (blk_cell BK165.out 4).trans rfl
                            have hfz62_0 := blk_frozen BK165.out 0
                            have hfz62_1 := blk_frozen BK165.out 1
                            have hfz62_2 := blk_frozen BK165.out 2
                            have hfz62_3 := blk_frozen BK165.out 3
                            have hfz62_4 := blk_frozen BK165.out 4
                            have hnb63 := NB167_163.out
                            have hnc63 := NB163_167.out
                            have hcz64_0 : wc.cell? ⟨gb167, 0, none⟩ = some (.string ((rd_T36 l0_1 x20_1).f0)) := (blk_cell BK167.out 0).trans rfl
                            have hcz64_1 : wc.cell? ⟨gb167, 1, none⟩ = some (.int .i64 ((rd_T36 l0_1 x20_1).f1.f0)) := (blk_cell BK167.out 1).trans rfl
                            have hcz64_2 : wc.cell? ⟨gb167, 2, none⟩ = some (.int .i64 ((rd_T36 l0_1 x20_1).f1.f1)) := (blk_cell BK167.out 2).trans rfl
                            have hcz64_3 : wc.cell? ⟨gb167, 3, none⟩ = some (.bool ((rd_T36 l0_1 x20_1).f2)) := (blk_cell BK167.out 3).trans rfl
                            have hfz64_0 := blk_frozen BK167.out 0
                            have hfz64_1 := blk_frozen BK167.out 1
                            have hfz64_2 := blk_frozen BK167.out 2
                            have hfz64_3 := blk_frozen BK167.out 3
                            go_wp2_with (first | ((with_reducible refine gate_callee (f := 42) rfl ?_); refine goesL_ (some 51) rfl rfl Tryz.func42 (by kernel_rfl) rfl #[.agg #[.int .i64 ((rd_T41 l1 x20_1).f0.f0), .int .i64 ((rd_T41 l1 x20_1).f0.f1)], .agg #[.int .i64 ((rd_T36 l0_1 x20_1).f1.f0), .int .i64 ((rd_T36 l0_1 x20_1).f1.f1)]] rfl (by (try simp only [List.map_toArray, List.map_cons, List.map_nil]); first | done | rfl | (simp only [List.length_drop, List.length_take]; rfl)) ?_; (with_reducible refine (value_Alike.calls ((rd_T41 l1 x20_1).f0.f0) ((rd_T41 l1 x20_1).f0.f1) ((rd_T36 l0_1 x20_1).f1.f0) ((rd_T36 l0_1 x20_1).f1.f1) true _ A40.out).mono ?_); rintro e w65 ⟨rfl, hb⟩; refine ⟨_, rfl, ?_⟩; have n0_ := Aside0.mk (Kd.R_below (by (with_reducible repeat (first | apply Kd.R_alloc | apply Kd.R_drewN | apply Kd.R_drew)); exact HO_6.out) hb); have n1_ := Aside0.mk (blk_below (g := gb163) (o := .cells #[.string a0_0, .slice (some ad166) l0_1.length c0_1] 24 (0, 0)) (by (with_reducible repeat (first | refine blk_drewN ?_ _ | refine blk_drew ?_ | refine blk_alloc ?_ _)); exact BK163.out) hb); have n2_ := Aside0.mk (blk_below (g := gb165) (o := .cells #[.int .i64 ((rd_T41 l1 x20_1).f0.f0), .int .i64 ((rd_T41 l1 x20_1).f0.f1), .bool ((rd_T41 l1 x20_1).f1), .int .i64 ((rd_T41 l1 x20_1).f2), .string ((rd_T41 l1 x20_1).f3)] 41 (0, 0)) (by (with_reducible repeat (first | refine blk_drewN ?_ _ | refine blk_drew ?_ | refine blk_alloc ?_ _)); exact BK165.out) hb); have n3_ := Aside0.mk (blk_below (g := gb167) (o := .cells #[.string ((rd_T36 l0_1 x20_1).f0), .int .i64 ((rd_T36 l0_1 x20_1).f1.f0), .int .i64 ((rd_T36 l0_1 x20_1).f1.f1), .bool ((rd_T36 l0_1 x20_1).f2)] 36 (0, 0)) (by (with_reducible repeat (first | refine blk_drewN ?_ _ | refine blk_drew ?_ | refine blk_alloc ?_ _)); exact BK167.out) hb); have n4_ := Aside0.mk (below_step (by repeat (first | (with_reducible first | exact HB.out | apply below_alloc | apply pw_below_drewN | apply below_drew1 | refine below_set ?_ GE163.out | refine below_set ?_ GE165.out | refine below_set ?_ GE167.out) | exact HB.out)) hb); clear HO_6; clear BK163; clear BK165; clear BK167; clear HB; have HO_6 := n0_; have BK163 := n1_; have BK165 := n2_; have BK167 := n3_; have HB := n4_; clear n0_ n1_ n2_ n3_ n4_; (try clear hb); (try clear hb2); (try clear hk); (try clear hi); have hcz66_0 : w65.cell? ⟨gb165, 0, none⟩ = some (.int .i64 ((rd_T41 l1 x20_1).f0.f0)) := (blk_cell BK165.out 0).trans rfl; have hcz66_1 : w65.cell? ⟨gb165, 1, none⟩ = some (.int .i64 ((rd_T41 l1 x20_1).f0.f1)) := (blk_cell BK165.out 1).trans rfl; have hcz66_2 : w65.cell? ⟨gb165, 2, none⟩ = some (.bool ((rd_T41 l1 x20_1).f1)) := (blk_cell BK165.out 2).trans rfl; have hcz66_3 : w65.cell? ⟨gb165, 3, none⟩ = some (.int .i64 ((rd_T41 l1 x20_1).f2)) := (blk_cell BK165.out 3).trans rfl; have hcz66_4 : w65.cell? ⟨gb165, 4, none⟩ = some (.string ((rd_T41 l1 x20_1).f3)) := (blk_cell BK165.out 4).trans rfl; have hfz66_0 := blk_frozen BK165.out 0; have hfz66_1 := blk_frozen BK165.out 1; have hfz66_2 := blk_frozen BK165.out 2; have hfz66_3 := blk_frozen BK165.out 3; have hfz66_4 := blk_frozen BK165.out 4; have hcz67_0 : w65.cell? ⟨gb167, 0, none⟩ = some (.string ((rd_T36 l0_1 x20_1).f0)) := (blk_cell BK167.out 0).trans rfl; have hcz67_1 : w65.cell? ⟨gb167, 1, none⟩ = some (.int .i64 ((rd_T36 l0_1 x20_1).f1.f0)) := (blk_cell BK167.out 1).trans rfl; have hcz67_2 : w65.cell? ⟨gb167, 2, none⟩ = some (.int .i64 ((rd_T36 l0_1 x20_1).f1.f1)) := (blk_cell BK167.out 2).trans rfl; have hcz67_3 : w65.cell? ⟨gb167, 3, none⟩ = some (.bool ((rd_T36 l0_1 x20_1).f2)) := (blk_cell BK167.out 3).trans rfl; have hfz67_0 := blk_frozen BK167.out 0; have hfz67_1 := blk_frozen BK167.out 1; have hfz67_2 := blk_frozen BK167.out 2; have hfz67_3 := blk_frozen BK167.out 3) | ((with_reducible refine gate_callee (f := 43) rfl ?_); refine goesL_ (some 57) rfl rfl Tryz.func43 (by kernel_rfl) rfl #[.agg #[.int .i64 ((rd_T41 l1 x20_1).f0.f0), .int .i64 ((rd_T41 l1 x20_1).f0.f1), .bool false, .int .i64 ((rd_T41 l1 x20_1).f2), .string ((rd_T41 l1 x20_1).f3)], .agg #[.int .i64 ((rd_T36 l0_1 x20_1).f1.f0), .int .i64 ((rd_T36 l0_1 x20_1).f1.f1)]] rfl (by (try simp only [List.map_toArray, List.map_cons, List.map_nil]); first | done | rfl | (simp only [List.length_drop, List.length_take]; rfl)) ?_; (with_reducible refine (value_Cast.calls kj9 ((rd_T41 l1 x20_1).f0.f0) ((rd_T41 l1 x20_1).f0.f1) false ((rd_T41 l1 x20_1).f2) ((rd_T41 l1 x20_1).f3) ((rd_T36 l0_1 x20_1).f1.f0) ((rd_T36 l0_1 x20_1).f1.f1) t177 t178 t179 t180 t181 t182 _ A42.out).mono ?_); rintro e w68 ⟨rfl, hb⟩; refine ⟨_, rfl, ?_⟩; have n0_ := Aside0.mk (Kd.R_below (by (with_reducible repeat (first | apply Kd.R_alloc | apply Kd.R_drewN | apply Kd.R_drew)); exact HO_6.out) hb); have n1_ := Aside0.mk (blk_below (g := gb163) (o := .cells #[.string a0_0, .slice (some ad166) l0_1.length c0_1] 24 (0, 0)) (by (with_reducible repeat (first | refine blk_drewN ?_ _ | refine blk_drew ?_ | refine blk_alloc ?_ _)); exact BK163.out) hb); have n2_ := Aside0.mk (blk_below (g := gb165) (o := .cells #[.int .i64 ((rd_T41 l1 x20_1).f0.f0), .int .i64 ((rd_T41 l1 x20_1).f0.f1), .bool ((rd_T41 l1 x20_1).f1), .int .i64 ((rd_T41 l1 x20_1).f2), .string ((rd_T41 l1 x20_1).f3)] 41 (0, 0)) (by (with_reducible repeat (first | refine blk_drewN ?_ _ | refine blk_drew ?_ | refine blk_alloc ?_ _)); exact BK165.out) hb); have n3_ := Aside0.mk (blk_below (g := gb167) (o := .cells #[.string ((rd_T36 l0_1 x20_1).f0), .int .i64 ((rd_T36 l0_1 x20_1).f1.f0), .int .i64 ((rd_T36 l0_1 x20_1).f1.f1), .bool ((rd_T36 l0_1 x20_1).f2)] 36 (0, 0)) (by (with_reducible repeat (first | refine blk_drewN ?_ _ | refine blk_drew ?_ | refine blk_alloc ?_ _)); exact BK167.out) hb); have n4_ := Aside0.mk (below_step (by repeat (first | (with_reducible first | exact HB.out | apply below_alloc | apply pw_below_drewN | apply below_drew1 | refine below_set ?_ GE163.out | refine below_set ?_ GE165.out | refine below_set ?_ GE167.out) | exact HB.out)) hb); clear HO_6; clear BK163; clear BK165; clear BK167; clear HB; have HO_6 := n0_; have BK163 := n1_; have BK165 := n2_; have BK167 := n3_; have HB := n4_; clear n0_ n1_ n2_ n3_ n4_; (try clear hb); (try clear hb2); (try clear hk); (try clear hi)) | ((with_reducible refine gate_dst (N := 10) rfl ?_); refine box_event ?hg (N := 10) ?hd (cs := #[.int .i64 0, .int .i64 0, .bool false, .int .i64 0, .string (⟨#[]⟩ : ByteArray)]) (t := 41) ?hr ?_; (case hd => rfl); (case hg => rfl); (case hr => first | (go_simp; done) | (go_simp; rfl)); intro gb183 hg w69 hbox hb; have n0_ := Aside0.mk (Kd.R_below (Kd.R_elderB (by (with_reducible repeat (first | apply Kd.R_alloc | apply Kd.R_drewN | apply Kd.R_drew)); exact HO_6.out) gb183 (Nat.le_of_eq hg.symm)) hb); have n1_ := Aside0.mk (blk_below (g := gb163) (o := .cells #[.string a0_0, .slice (some ad166) l0_1.length c0_1] 24 (0, 0)) (by (with_reducible repeat (first | refine blk_drewN ?_ _ | refine blk_drew ?_ | refine blk_alloc ?_ _)); exact BK163.out) hb); have n2_ := Aside0.mk (blk_below (g := gb165) (o := .cells #[.int .i64 ((rd_T41 l1 x20_1).f0.f0), .int .i64 ((rd_T41 l1 x20_1).f0.f1), .bool ((rd_T41 l1 x20_1).f1), .int .i64 ((rd_T41 l1 x20_1).f2), .string ((rd_T41 l1 x20_1).f3)] 41 (0, 0)) (by (with_reducible repeat (first | refine blk_drewN ?_ _ | refine blk_drew ?_ | refine blk_alloc ?_ _)); exact BK165.out) hb); have n3_ := Aside0.mk (blk_below (g := gb167) (o := .cells #[.string ((rd_T36 l0_1 x20_1).f0), .int .i64 ((rd_T36 l0_1 x20_1).f1.f0), .int .i64 ((rd_T36 l0_1 x20_1).f1.f1), .bool ((rd_T36 l0_1 x20_1).f2)] 36 (0, 0)) (by (with_reducible repeat (first | refine blk_drewN ?_ _ | refine blk_drew ?_ | refine blk_alloc ?_ _)); exact BK167.out) hb); have n4_ := Aside0.mk (below_step (by repeat (first | (with_reducible first | exact HB.out | apply below_alloc | apply pw_below_drewN | apply below_drew1 | refine below_set ?_ GE163.out | refine below_set ?_ GE165.out | refine below_set ?_ GE167.out) | exact HB.out)) hb); have n5_ := Aside0.mk (hbox); have n6_ := Aside0.mk ((by rw [hg]; exact (below_size (by repeat (first | (with_reducible first | exact HB.out | apply below_alloc | apply pw_below_drewN | apply below_drew1 | refine below_set ?_ GE163.out | refine below_set ?_ GE165.out | refine below_set ?_ GE167.out) | exact HB.out))) : w.heap.size ≤ gb183)); have n7_ := Aside0.mk ((by rw [hg]; exact (below_size (by repeat (first | (with_reducible first | exact HB.out | apply below_alloc | apply pw_below_drewN | apply below_drew1 | refine below_set ?_ GE163.out | refine below_set ?_ GE165.out | refine below_set ?_ GE167.out) | exact HB.out))) : w.heap.size ≤ gb183)); have n8_ := Aside0.mk ((by rw [hg]; exact Nat.ne_of_lt (blk_lt (g := gb163) (o := .cells #[.string a0_0, .slice (some ad166) l0_1.length c0_1] 24 (0, 0)) (by (with_reducible repeat (first | refine blk_drewN ?_ _ | refine blk_drew ?_ | refine blk_alloc ?_ _)); exact BK163.out)) : gb163 ≠ gb183)); have n9_ := Aside0.mk ((by rw [hg]; exact Nat.ne_of_gt (blk_lt (g := gb163) (o := .cells #[.string a0_0, .slice (some ad166) l0_1.length c0_1] 24 (0, 0)) (by (with_reducible repeat (first | refine blk_drewN ?_ _ | refine blk_drew ?_ | refine blk_alloc ?_ _)); exact BK163.out)) : gb183 ≠ gb163)); have n10_ := Aside0.mk ((by rw [hg]; exact Nat.ne_of_lt (blk_lt (g := gb165) (o := .cells #[.int .i64 ((rd_T41 l1 x20_1).f0.f0), .int .i64 ((rd_T41 l1 x20_1).f0.f1), .bool ((rd_T41 l1 x20_1).f1), .int .i64 ((rd_T41 l1 x20_1).f2), .string ((rd_T41 l1 x20_1).f3)] 41 (0, 0)) (by (with_reducible repeat (first | refine blk_drewN ?_ _ | refine blk_drew ?_ | refine blk_alloc ?_ _)); exact BK165.out)) : gb165 ≠ gb183)); have n11_ := Aside0.mk ((by rw [hg]; exact Nat.ne_of_gt (blk_lt (g := gb165) (o := .cells #[.int .i64 ((rd_T41 l1 x20_1).f0.f0), .int .i64 ((rd_T41 l1 x20_1).f0.f1), .bool ((rd_T41 l1 x20_1).f1), .int .i64 ((rd_T41 l1 x20_1).f2), .string ((rd_T41 l1 x20_1).f3)] 41 (0, 0)) (by (with_reducible repeat (first | refine blk_drewN ?_ _ | refine blk_drew ?_ | refine blk_alloc ?_ _)); exact BK165.out)) : gb183 ≠ gb165)); have n12_ := Aside0.mk ((by rw [hg]; exact Nat.ne_of_lt (blk_lt (g := gb167) (o := .cells #[.string ((rd_T36 l0_1 x20_1).f0), .int .i64 ((rd_T36 l0_1 x20_1).f1.f0), .int .i64 ((rd_T36 l0_1 x20_1).f1.f1), .bool ((rd_T36 l0_1 x20_1).f2)] 36 (0, 0)) (by (with_reducible repeat (first | refine blk_drewN ?_ _ | refine blk_drew ?_ | refine blk_alloc ?_ _)); exact BK167.out)) : gb167 ≠ gb183)); have n13_ := Aside0.mk ((by rw [hg]; exact Nat.ne_of_gt (blk_lt (g := gb167) (o := .cells #[.string ((rd_T36 l0_1 x20_1).f0), .int .i64 ((rd_T36 l0_1 x20_1).f1.f0), .int .i64 ((rd_T36 l0_1 x20_1).f1.f1), .bool ((rd_T36 l0_1 x20_1).f2)] 36 (0, 0)) (by (with_reducible repeat (first | refine blk_drewN ?_ _ | refine blk_drew ?_ | refine blk_alloc ?_ _)); exact BK167.out)) : gb183 ≠ gb167)); clear HO_6; clear BK163; clear BK165; clear BK167; clear HB; have HO_6 := n0_; have BK163 := n1_; have BK165 := n2_; have BK167 := n3_; have HB := n4_; have BK183 := n5_; have GW183 := n6_; have GE183 := n7_; have NB163_183 := n8_; have NB183_163 := n9_; have NB165_183 := n10_; have NB183_165 := n11_; have NB167_183 := n12_; have NB183_167 := n13_; clear n0_ n1_ n2_ n3_ n4_ n5_ n6_ n7_ n8_ n9_ n10_ n11_ n12_ n13_; clear hb hbox hg; have hnb70 := NB183_163.out; have hnc70 := NB163_183.out; have hnb71 := NB183_165.out; have hnc71 := NB165_183.out; have hnb72 := NB183_167.out; have hnc72 := NB167_183.out; have hcz73_0 : w69.cell? ⟨gb183, 0, none⟩ = some (.int .i64 0) := (blk_cell BK183.out 0).trans rfl; have hcz73_1 : w69.cell? ⟨gb183, 1, none⟩ = some (.int .i64 0) := (blk_cell BK183.out 1).trans rfl; have hcz73_2 : w69.cell? ⟨gb183, 2, none⟩ = some (.bool false) := (blk_cell BK183.out 2).trans rfl; have hcz73_3 : w69.cell? ⟨gb183, 3, none⟩ = some (.int .i64 0) := (blk_cell BK183.out 3).trans rfl; have hcz73_4 : w69.cell? ⟨gb183, 4, none⟩ = some (.string (⟨#[]⟩ : ByteArray)) := (blk_cell BK183.out 4).trans rfl; have hfz73_0 := blk_frozen BK183.out 0; have hfz73_1 := blk_frozen BK183.out 1; have hfz73_2 := blk_frozen BK183.out 2; have hfz73_3 := blk_frozen BK183.out 3; have hfz73_4 := blk_frozen BK183.out 4))
                            go_ret2
                            exact ⟨_, by first | rfl | (simp [errW_none, errW_some] <;> rfl) | (simp [*, errW_none, errW_some] <;> rfl), by first | exact Kd.R_nil _ _ _ _ _ | exact Kd.N_nil _ _ _ _ _ | exact Kd.V_nil _ _ _ _ _ | exact Kd.Q_nil _ _ _ _ _ | exact Kd.S_nil _ _ _ _ _, by repeat (first | (with_reducible first | exact HB.out | apply below_alloc | apply pw_below_drewN | apply below_drew1 | refine below_set ?_ GE163.out | refine below_set ?_ GE165.out | refine below_set ?_ GE167.out | refine below_set ?_ GE183.out) | exact HB.out)⟩
                        · replace c41 := Bool.eq_false_iff.mpr c41
                          subst c41
                          have H1 : (some (([] : List (S41)), 21)) = some (r1, r2) := by rw [if_neg (show ¬ (false = true) by decide)] at H; exact H
                          clear H
                          have H := H1
                          clear H1
                          simp only [Option.some.injEq, Prod.mk.injEq] at H
                          obtain ⟨rfl, rfl⟩ := H
                          have hnb74 := NB165_163.out
                          have hnc74 := NB163_165.out
                          have hnb75 := NB165_167.out
                          have hnc75 := NB167_165.out
                          have hcz76_0 : wc.cell? ⟨gb165, 0, none⟩ = some (.int .i64 ((rd_T41 l1 x20_1).f0.f0)) := (blk_cell BK165.out 0).trans rfl
                          have hcz76_1 : wc.cell? ⟨gb165, 1, none⟩ = some (.int .i64 ((rd_T41 l1 x20_1).f0.f1)) := (blk_cell BK165.out 1).trans rfl
                          have hcz76_2 : wc.cell? ⟨gb165, 2, none⟩ = some (.bool ((rd_T41 l1 x20_1).f1)) := (blk_cell BK165.out 2).trans rfl
                          have hcz76_3 : wc.cell? ⟨gb165, 3, none⟩ = some (.int .i64 ((rd_T41 l1 x20_1).f2)) := (blk_cell BK165.out 3).trans rfl
                          have hcz76_4 : wc.cell? ⟨gb165, 4, none⟩ = some (.string ((rd_T41 l1 x20_1).f3)) := (blk_cell BK165.out 4).trans rfl
                          have hfz76_0 := blk_frozen BK165.out 0
                          have hfz76_1 := blk_frozen BK165.out 1
                          have hfz76_2 := blk_frozen BK165.out 2
                          have hfz76_3 := blk_frozen BK165.out 3
                          have hfz76_4 := blk_frozen BK165.out 4
                          have hnb77 := NB167_163.out
                          have hnc77 := NB163_167.out
                          have hcz78_0 : wc.cell? ⟨gb167, 0, none⟩ = some (.string ((rd_T36 l0_1 x20_1).f0)) := (blk_cell BK167.out 0).trans rfl
                          have hcz78_1 : wc.cell? ⟨gb167, 1, none⟩ = some (.int .i64 ((rd_T36 l0_1 x20_1).f1.f0)) := (blk_cell BK167.out 1).trans rfl
                          have hcz78_2 : wc.cell? ⟨gb167, 2, none⟩ = some (.int .i64 ((rd_T36 l0_1 x20_1).f1.f1)) := (blk_cell BK167.out 2).trans rfl
                          have hcz78_3 : wc.cell? ⟨gb167, 3, none⟩ = some (.bool ((rd_T36 l0_1 x20_1).f2)) := (blk_cell BK167.out 3).trans rfl
                          have hfz78_0 := blk_frozen BK167.out 0
                          have hfz78_1 := blk_frozen BK167.out 1
                          have hfz78_2 := blk_frozen BK167.out 2
                          have hfz78_3 := blk_frozen BK167.out 3
                          go_wp2_with (first | ((with_reducible refine gate_callee (f := 42) rfl ?_); refine goesL_ (some 51) rfl rfl Tryz.func42 (by kernel_rfl) rfl #[.agg #[.int .i64 ((rd_T41 l1 x20_1).f0.f0), .int .i64 ((rd_T41 l1 x20_1).f0.f1)], .agg #[.int .i64 ((rd_T36 l0_1 x20_1).f1.f0), .int .i64 ((rd_T36 l0_1 x20_1).f1.f1)]] rfl (by (try simp only [List.map_toArray, List.map_cons, List.map_nil]); first | done | rfl | (simp only [List.length_drop, List.length_take]; rfl)) ?_; (with_reducible refine (value_Alike.calls ((rd_T41 l1 x20_1).f0.f0) ((rd_T41 l1 x20_1).f0.f1) ((rd_T36 l0_1 x20_1).f1.f0) ((rd_T36 l0_1 x20_1).f1.f1) false _ A40.out).mono ?_); rintro e w79 ⟨rfl, hb⟩; refine ⟨_, rfl, ?_⟩; have n0_ := Aside0.mk (Kd.R_below (by (with_reducible repeat (first | apply Kd.R_alloc | apply Kd.R_drewN | apply Kd.R_drew)); exact HO_6.out) hb); have n1_ := Aside0.mk (blk_below (g := gb163) (o := .cells #[.string a0_0, .slice (some ad166) l0_1.length c0_1] 24 (0, 0)) (by (with_reducible repeat (first | refine blk_drewN ?_ _ | refine blk_drew ?_ | refine blk_alloc ?_ _)); exact BK163.out) hb); have n2_ := Aside0.mk (blk_below (g := gb165) (o := .cells #[.int .i64 ((rd_T41 l1 x20_1).f0.f0), .int .i64 ((rd_T41 l1 x20_1).f0.f1), .bool ((rd_T41 l1 x20_1).f1), .int .i64 ((rd_T41 l1 x20_1).f2), .string ((rd_T41 l1 x20_1).f3)] 41 (0, 0)) (by (with_reducible repeat (first | refine blk_drewN ?_ _ | refine blk_drew ?_ | refine blk_alloc ?_ _)); exact BK165.out) hb); have n3_ := Aside0.mk (blk_below (g := gb167) (o := .cells #[.string ((rd_T36 l0_1 x20_1).f0), .int .i64 ((rd_T36 l0_1 x20_1).f1.f0), .int .i64 ((rd_T36 l0_1 x20_1).f1.f1), .bool ((rd_T36 l0_1 x20_1).f2)] 36 (0, 0)) (by (with_reducible repeat (first | refine blk_drewN ?_ _ | refine blk_drew ?_ | refine blk_alloc ?_ _)); exact BK167.out) hb); have n4_ := Aside0.mk (below_step (by repeat (first | (with_reducible first | exact HB.out | apply below_alloc | apply pw_below_drewN | apply below_drew1 | refine below_set ?_ GE163.out | refine below_set ?_ GE165.out | refine below_set ?_ GE167.out) | exact HB.out)) hb); clear HO_6; clear BK163; clear BK165; clear BK167; clear HB; have HO_6 := n0_; have BK163 := n1_; have BK165 := n2_; have BK167 := n3_; have HB := n4_; clear n0_ n1_ n2_ n3_ n4_; (try clear hb); (try clear hb2); (try clear hk); (try clear hi)))
                          go_ret2
                          exact ⟨_, by first | rfl | (simp [errW_none, errW_some] <;> rfl) | (simp [*, errW_none, errW_some] <;> rfl), by first | exact Kd.R_nil _ _ _ _ _ | exact Kd.N_nil _ _ _ _ _ | exact Kd.V_nil _ _ _ _ _ | exact Kd.Q_nil _ _ _ _ _ | exact Kd.S_nil _ _ _ _ _, by repeat (first | (with_reducible first | exact HB.out | apply below_alloc | apply pw_below_drewN | apply below_drew1 | refine below_set ?_ GE163.out | refine below_set ?_ GE165.out | refine below_set ?_ GE167.out) | exact HB.out)⟩
              · rw [if_neg c9] at H
                exact absurd H (by simp)
            · rw [if_neg c8] at H
              exact absurd H (by simp)
          · rw [if_neg c7] at H
            exact absurd H (by simp)
        · rw [if_neg c6] at H
          have c6b0 : decide (x20_1 < (l1.length : Int)) = false := decide_eq_false c6
          clear c6
          simp only [Option.some.injEq, Prod.mk.injEq] at H
          obtain ⟨rfl, rfl⟩ := H
          go_wp2
          go_ret2
          exact ⟨_, by first | rfl | (simp [errW_none, errW_some] <;> rfl) | (simp [*, errW_none, errW_some] <;> rfl), by (with_reducible repeat (first | apply Kd.R_alloc | apply Kd.R_drewN | apply Kd.R_drew)); exact HO_6.out, by repeat (first | (with_reducible first | exact HB.out | apply below_alloc | apply pw_below_drewN | apply below_drew1 | refine below_set ?_ GE163.out) | exact HB.out)⟩
  · rw [if_neg c3] at H
    have c3b0 : ((l1.length : Int) == (l0_1.length : Int)) = false := beq_eq_false_iff_ne.mpr c3
    have c3b1 : ((l1.length : Int) != (l0_1.length : Int)) = true := bne_iff_ne.mpr c3
    have c3b2 : (l1.length == l0_1.length) = false := by first | simpa using c3 | (simp at c3 ⊢; omega)
    simp only [Option.some.injEq, Prod.mk.injEq] at H
    obtain ⟨rfl, rfl⟩ := H
    go_enter Tryz.func10, Tryz.ntmps10
    go_wp2_with (first | ((with_reducible refine gate_dst (N := 2) rfl ?_); refine box_event ?hg (N := 2) ?hd (cs := #[.string a0_0, .slice A0_1 l0_1.length c0_1]) (t := 24) ?hr ?_; (case hd => rfl); (case hg => rfl); (case hr => first | (go_simp; done) | (go_simp; rfl)); intro gb163 hg w80 hbox hb; have n0_ := Aside0.mk (below_step (by repeat (first | (with_reducible first | exact HB.out | apply below_alloc | apply pw_below_drewN | apply below_drew1) | exact HB.out)) hb); have n1_ := Aside0.mk (hbox); have n2_ := Aside0.mk ((by rw [hg]; exact (below_size (by repeat (first | (with_reducible first | exact HB.out | apply below_alloc | apply pw_below_drewN | apply below_drew1) | exact HB.out))) : w.heap.size ≤ gb163)); have n3_ := Aside0.mk ((by rw [hg]; exact (below_size (by repeat (first | (with_reducible first | exact HB.out | apply below_alloc | apply pw_below_drewN | apply below_drew1) | exact HB.out))) : w.heap.size ≤ gb163)); clear HB; have HB := n0_; have BK163 := n1_; have GW163 := n2_; have GE163 := n3_; clear n0_ n1_ n2_ n3_; clear hb hbox hg; have hcz81_0 : w80.cell? ⟨gb163, 0, none⟩ = some (.string a0_0) := (blk_cell BK163.out 0).trans rfl; have hcz81_1 : w80.cell? ⟨gb163, 1, none⟩ = some (.slice A0_1 l0_1.length c0_1) := (blk_cell BK163.out 1).trans rfl; have hfz81_0 := blk_frozen BK163.out 0; have hfz81_1 := blk_frozen BK163.out 1))
    go_ret2
    exact ⟨_, by first | rfl | (simp [errW_none, errW_some] <;> rfl) | (simp [*, errW_none, errW_some] <;> rfl), by first | exact Kd.R_nil _ _ _ _ _ | exact Kd.N_nil _ _ _ _ _ | exact Kd.V_nil _ _ _ _ _ | exact Kd.Q_nil _ _ _ _ _ | exact Kd.S_nil _ _ _ _ _, by repeat (first | (with_reducible first | exact HB.out | apply below_alloc | apply pw_below_drewN | apply below_drew1 | refine below_set ?_ GE163.out) | exact HB.out)⟩

/-! ### num_FormatInt: function 47, by hand -/
def num_FormatInt.f (a0 : Int) : Option (ByteArray) := if -9223372036854775808 ≤ a0 then (if a0 ≤ 9223372036854775807 then some ⟨(Lib.itoa a0).toArray⟩ else none) else none
set_option maxHeartbeats 8000000 in
set_option maxRecDepth 100000 in
theorem num_FormatInt.calls (a0 : Int) (r : ByteArray) (w : World) (h : num_FormatInt.f a0 = some r) (hG : Gl w) :
    Calls Tryz.prog 47 #[.int .i64 a0] w fun e w' => e = .returned (.string r) ∧ Below w.heap.size w w' := by
  unfold num_FormatInt.f at h
  by_cases h1 : -9223372036854775808 ≤ a0
  · rw [if_pos h1] at h
    by_cases h2 : a0 ≤ 9223372036854775807
    · rw [if_pos h2] at h
      obtain rfl := Option.some.inj h
      have HT := Aside0.mk hG.pow
      clear hG
      go_enter Tryz.func47, Tryz.ntmps47
      go_wp2_with ((with_reducible refine gate_callee (f := 93) rfl ?_); refine goesL_ _ rfl rfl Tryz.func93 (by kernel_rfl) rfl #[.int .i64 a0, .int .i64 10] rfl (by (try simp only [List.map_toArray, List.map_cons, List.map_nil]); first | done | rfl | (simp only [List.length_drop, List.length_take]; rfl)) ?_; (with_reducible refine (Tryz.strconv_FormatInt_10 a0 h1 h2 _ HT.out).mono ?_); rintro e w' ⟨rfl, k, os, rfl⟩; refine ⟨_, rfl, ?_⟩)
      go_ret
      exact ⟨rfl, Lib.below_grow _ _ (Nat.le_refl _) _ _⟩
    · rw [if_neg h2] at h; exact absurd h (by simp)
  · rw [if_neg h1] at h; exact absurd h (by simp)


/-! ### schema_TypeName: function 14, by hand -/
def schema_TypeName.f (a0_0 a0_1 : Int) : Option (ByteArray) := if a0_0 < 1 then some (⟨#[63]⟩ : ByteArray) else if 5 < a0_0 then some (⟨#[63]⟩ : ByteArray) else if a0_0 = 3 then ((num_FormatInt.f a0_1).bind fun s => if s.size ≤ 1000000 then some (((⟨#[68, 69, 67, 73, 77, 65, 76, 40]⟩ : ByteArray) ++ s) ++ (⟨#[41]⟩ : ByteArray)) else none) else if a0_0 = 1 then some (⟨#[66, 79, 79, 76]⟩ : ByteArray) else if a0_0 = 2 then some (⟨#[73, 78, 84]⟩ : ByteArray) else if a0_0 = 4 then some (⟨#[84, 69, 88, 84]⟩ : ByteArray) else some (⟨#[68, 65, 84, 69]⟩ : ByteArray)
set_option maxHeartbeats 8000000 in
set_option maxRecDepth 100000 in
theorem schema_TypeName.calls (a0_0 a0_1 : Int) (r : ByteArray) (w : World) (h : schema_TypeName.f a0_0 a0_1 = some r) (hG : Gl w) :
    Calls Tryz.prog 14 #[.agg #[.int .i64 a0_0, .int .i64 a0_1]] w fun e w' => e = .returned (.string r) ∧ Below w.heap.size w w' := by
  have HB := Aside0.mk (Below.refl w.heap.size w)
  have HG := Aside0.mk hG
  have HF := Aside0.mk h
  clear h hG
  go_enter Tryz.func14, Tryz.ntmps14
  go_upto_block 0 with (first | ((with_reducible refine gate_dst (N := 1) rfl ?_); refine box_event ?hg (N := 1) ?hd (cs := #[.int .i64 a0_0, .int .i64 a0_1]) (t := 34) ?hr ?_; (case hd => rfl); (case hg => rfl); (case hr => first | (go_simp; done) | (go_simp; rfl)); intro gb1 hg w1 hbox hb; have n0_ := Aside0.mk (below_step (by repeat (first | (with_reducible first | exact HB.out | apply below_alloc | apply pw_below_drewN | apply below_drew1) | exact HB.out)) hb); have n1_ := Aside0.mk (hbox); have n2_ := Aside0.mk ((by rw [hg]; exact (below_size (by repeat (first | (with_reducible first | exact HB.out | apply below_alloc | apply pw_below_drewN | apply below_drew1) | exact HB.out))) : w.heap.size ≤ gb1)); clear HB; have HB := n0_; have BK1 := n1_; have GE1 := n2_; clear n0_ n1_ n2_; clear hb hbox hg) | ((with_reducible refine gate_dst (N := 3) rfl ?_); refine box_event ?hg (N := 3) ?hd (cs := #[.string (⟨#[]⟩ : ByteArray), .string (⟨#[]⟩ : ByteArray), .string (⟨#[]⟩ : ByteArray), .string (⟨#[]⟩ : ByteArray), .string (⟨#[]⟩ : ByteArray), .string (⟨#[]⟩ : ByteArray)]) (t := 73) ?hr ?_; (case hd => rfl); (case hg => rfl); (case hr => rfl); intro gb3 hg w3 hbox hb; have n0_ := Aside0.mk (blk_below (g := gb1) (o := .cells #[.int .i64 a0_0, .int .i64 a0_1] 34 (0, 0)) (by (with_reducible repeat (first | refine blk_drewN ?_ _ | refine blk_drew ?_ | refine blk_alloc ?_ _)); exact BK1.out) hb); have n1_ := Aside0.mk (below_step (by repeat (first | (with_reducible first | exact HB.out | apply below_alloc | apply pw_below_drewN | apply below_drew1 | refine below_set ?_ GE1.out) | exact HB.out)) hb); have n2_ := Aside0.mk (hbox); have n3_ := Aside0.mk ((by rw [hg]; exact (below_size (by repeat (first | (with_reducible first | exact HB.out | apply below_alloc | apply pw_below_drewN | apply below_drew1 | refine below_set ?_ GE1.out) | exact HB.out))) : w.heap.size ≤ gb3)); have n4_ := Aside0.mk ((by rw [hg]; exact Nat.ne_of_lt (blk_lt (g := gb1) (o := .cells #[.int .i64 a0_0, .int .i64 a0_1] 34 (0, 0)) (by (with_reducible repeat (first | refine blk_drewN ?_ _ | refine blk_drew ?_ | refine blk_alloc ?_ _)); exact BK1.out)) : gb1 ≠ gb3)); clear BK1; clear HB; have BK1 := n0_; have HB := n1_; have BK3 := n2_; have GE3 := n3_; have NB := n4_; clear n0_ n1_ n2_ n3_ n4_; clear hb hbox hg; have hz0 : w3.cell? ⟨gb3, 0, none⟩ = some (.string (⟨#[]⟩ : ByteArray)) := (blk_cell BK3.out 0).trans rfl; have hy0 := blk_frozen BK3.out 0; have hz1 : w3.cell? ⟨gb3, 1, none⟩ = some (.string (⟨#[]⟩ : ByteArray)) := (blk_cell BK3.out 1).trans rfl; have hy1 := blk_frozen BK3.out 1; have hz2 : w3.cell? ⟨gb3, 2, none⟩ = some (.string (⟨#[]⟩ : ByteArray)) := (blk_cell BK3.out 2).trans rfl; have hy2 := blk_frozen BK3.out 2; have hz3 : w3.cell? ⟨gb3, 3, none⟩ = some (.string (⟨#[]⟩ : ByteArray)) := (blk_cell BK3.out 3).trans rfl; have hy3 := blk_frozen BK3.out 3; have hz4 : w3.cell? ⟨gb3, 4, none⟩ = some (.string (⟨#[]⟩ : ByteArray)) := (blk_cell BK3.out 4).trans rfl; have hy4 := blk_frozen BK3.out 4; have hz5 : w3.cell? ⟨gb3, 5, none⟩ = some (.string (⟨#[]⟩ : ByteArray)) := (blk_cell BK3.out 5).trans rfl; have hy5 := blk_frozen BK3.out 5))
  (try simp only [Act.put, List.setIfInBounds_toArray, List.set_cons_zero, List.set_cons_succ])
  have n1_ := Aside0.mk ((blk_put (cs' := #[.string (⟨#[]⟩ : ByteArray), .string (⟨#[66, 79, 79, 76]⟩ : ByteArray), .string (⟨#[73, 78, 84]⟩ : ByteArray), .string (⟨#[68, 69, 67, 73, 77, 65, 76, 40]⟩ : ByteArray), .string (⟨#[84, 69, 88, 84]⟩ : ByteArray), .string (⟨#[68, 65, 84, 69]⟩ : ByteArray)]) (blk_put (cs' := #[.string (⟨#[]⟩ : ByteArray), .string (⟨#[66, 79, 79, 76]⟩ : ByteArray), .string (⟨#[73, 78, 84]⟩ : ByteArray), .string (⟨#[68, 69, 67, 73, 77, 65, 76, 40]⟩ : ByteArray), .string (⟨#[84, 69, 88, 84]⟩ : ByteArray), .string (⟨#[]⟩ : ByteArray)]) (blk_put (cs' := #[.string (⟨#[]⟩ : ByteArray), .string (⟨#[66, 79, 79, 76]⟩ : ByteArray), .string (⟨#[73, 78, 84]⟩ : ByteArray), .string (⟨#[68, 69, 67, 73, 77, 65, 76, 40]⟩ : ByteArray), .string (⟨#[]⟩ : ByteArray), .string (⟨#[]⟩ : ByteArray)]) (blk_put (cs' := #[.string (⟨#[]⟩ : ByteArray), .string (⟨#[66, 79, 79, 76]⟩ : ByteArray), .string (⟨#[73, 78, 84]⟩ : ByteArray), .string (⟨#[]⟩ : ByteArray), .string (⟨#[]⟩ : ByteArray), .string (⟨#[]⟩ : ByteArray)]) (blk_put (cs' := #[.string (⟨#[]⟩ : ByteArray), .string (⟨#[66, 79, 79, 76]⟩ : ByteArray), .string (⟨#[]⟩ : ByteArray), .string (⟨#[]⟩ : ByteArray), .string (⟨#[]⟩ : ByteArray), .string (⟨#[]⟩ : ByteArray)]) (blk_put (cs' := #[.string (⟨#[]⟩ : ByteArray), .string (⟨#[]⟩ : ByteArray), .string (⟨#[]⟩ : ByteArray), .string (⟨#[]⟩ : ByteArray), .string (⟨#[]⟩ : ByteArray), .string (⟨#[]⟩ : ByteArray)]) BK3.out 0 (.string (⟨#[]⟩ : ByteArray)) rfl) 1 (.string (⟨#[66, 79, 79, 76]⟩ : ByteArray)) rfl) 2 (.string (⟨#[73, 78, 84]⟩ : ByteArray)) rfl) 3 (.string (⟨#[68, 69, 67, 73, 77, 65, 76, 40]⟩ : ByteArray)) rfl) 4 (.string (⟨#[84, 69, 88, 84]⟩ : ByteArray)) rfl) 5 (.string (⟨#[68, 65, 84, 69]⟩ : ByteArray)) rfl))
  have n2_ := Aside0.mk ((blk_far (blk_far (blk_far (blk_far (blk_far (blk_far BK1.out (p := ⟨gb3, 0, none⟩) NB.out (.string (⟨#[]⟩ : ByteArray))) (p := ⟨gb3, 1, none⟩) NB.out (.string (⟨#[66, 79, 79, 76]⟩ : ByteArray))) (p := ⟨gb3, 2, none⟩) NB.out (.string (⟨#[73, 78, 84]⟩ : ByteArray))) (p := ⟨gb3, 3, none⟩) NB.out (.string (⟨#[68, 69, 67, 73, 77, 65, 76, 40]⟩ : ByteArray))) (p := ⟨gb3, 4, none⟩) NB.out (.string (⟨#[84, 69, 88, 84]⟩ : ByteArray))) (p := ⟨gb3, 5, none⟩) NB.out (.string (⟨#[68, 65, 84, 69]⟩ : ByteArray))))
  have n3_ := Aside0.mk ((below_set (j := 5) (v := .string (⟨#[68, 65, 84, 69]⟩ : ByteArray)) (below_set (j := 4) (v := .string (⟨#[84, 69, 88, 84]⟩ : ByteArray)) (below_set (j := 3) (v := .string (⟨#[68, 69, 67, 73, 77, 65, 76, 40]⟩ : ByteArray)) (below_set (j := 2) (v := .string (⟨#[73, 78, 84]⟩ : ByteArray)) (below_set (j := 1) (v := .string (⟨#[66, 79, 79, 76]⟩ : ByteArray)) (below_set (j := 0) (v := .string (⟨#[]⟩ : ByteArray)) HB.out GE3.out) GE3.out) GE3.out) GE3.out) GE3.out) GE3.out))
  clear BK1 BK3 HB hz0 hz1 hz2 hz3 hz4 hz5 hy0 hy1 hy2 hy3 hy4 hy5
  have BK3 := n1_
  have BK1 := n2_
  have HB := n3_
  clear n1_ n2_ n3_
  generalize ((((((w3.setCell ⟨gb3, 0, none⟩ (.string (⟨#[]⟩ : ByteArray))).setCell ⟨gb3, 1, none⟩ (.string (⟨#[66, 79, 79, 76]⟩ : ByteArray))).setCell ⟨gb3, 2, none⟩ (.string (⟨#[73, 78, 84]⟩ : ByteArray))).setCell ⟨gb3, 3, none⟩ (.string (⟨#[68, 69, 67, 73, 77, 65, 76, 40]⟩ : ByteArray))).setCell ⟨gb3, 4, none⟩ (.string (⟨#[84, 69, 88, 84]⟩ : ByteArray))).setCell ⟨gb3, 5, none⟩ (.string (⟨#[68, 65, 84, 69]⟩ : ByteArray))) = w5 at BK1 BK3 HB ⊢
  have hc0 : w5.cell? ⟨gb1, 0, none⟩ = some (.int .i64 a0_0) := (blk_cell BK1.out 0).trans rfl
  have hc1 : w5.cell? ⟨gb1, 1, none⟩ = some (.int .i64 a0_1) := (blk_cell BK1.out 1).trans rfl
  have hd0 : w5.cell? ⟨gb3, 0, none⟩ = some (.string (⟨#[]⟩ : ByteArray)) := (blk_cell BK3.out 0).trans rfl
  have hd1 : w5.cell? ⟨gb3, 1, none⟩ = some (.string (⟨#[66, 79, 79, 76]⟩ : ByteArray)) := (blk_cell BK3.out 1).trans rfl
  have hd2 : w5.cell? ⟨gb3, 2, none⟩ = some (.string (⟨#[73, 78, 84]⟩ : ByteArray)) := (blk_cell BK3.out 2).trans rfl
  have hd3 : w5.cell? ⟨gb3, 3, none⟩ = some (.string (⟨#[68, 69, 67, 73, 77, 65, 76, 40]⟩ : ByteArray)) := (blk_cell BK3.out 3).trans rfl
  have hd4 : w5.cell? ⟨gb3, 4, none⟩ = some (.string (⟨#[84, 69, 88, 84]⟩ : ByteArray)) := (blk_cell BK3.out 4).trans rfl
  have hd5 : w5.cell? ⟨gb3, 5, none⟩ = some (.string (⟨#[68, 65, 84, 69]⟩ : ByteArray)) := (blk_cell BK3.out 5).trans rfl
  have h := HF.out
  clear HF
  unfold schema_TypeName.f at h
  by_cases c1 : a0_0 < 1
  · rw [if_pos c1] at h
    obtain rfl := Option.some.inj h
    clear h
    have c1b : decide (a0_0 < 1) = true := decide_eq_true c1
    clear c1
    go_wp2
    go_ret
    exact ⟨rfl, (by repeat (first | (with_reducible first | exact HB.out | apply below_alloc | apply pw_below_drewN | apply below_drew1 | refine below_set ?_ GE1.out | refine below_set ?_ GE3.out) | exact HB.out))⟩
  have c1b : decide (a0_0 < 1) = false := decide_eq_false c1
  rw [if_neg c1] at h
  by_cases c5 : 5 < a0_0
  · rw [if_pos c5] at h
    obtain rfl := Option.some.inj h
    clear h c1
    have c5b : decide (5 < a0_0) = true := decide_eq_true c5
    clear c5
    go_wp2
    go_ret
    exact ⟨rfl, (by repeat (first | (with_reducible first | exact HB.out | apply below_alloc | apply pw_below_drewN | apply below_drew1 | refine below_set ?_ GE1.out | refine below_set ?_ GE3.out) | exact HB.out))⟩
  have c5b : decide (5 < a0_0) = false := decide_eq_false c5
  rw [if_neg c5] at h
  by_cases c3 : a0_0 = 3
  · rw [if_pos c3] at h
    subst c3
    clear c1 c5 c1b c5b
    cases hf : num_FormatInt.f a0_1 with
    | none => rw [hf] at h; exact absurd h (by simp)
    | some s =>
    rw [hf, Option.bind_some] at h
    have AF := Aside0.mk hf
    clear hf
    by_cases hs : s.size ≤ 1000000
    case neg => rw [if_neg hs] at h; exact absurd h (by simp)
    rw [if_pos hs] at h
    obtain rfl := Option.some.inj h
    clear h
    go_upto_region 5 with (fail)
    (try simp only [Act.put, List.setIfInBounds_toArray, List.set_cons_zero, List.set_cons_succ])
    have hsz : (⟨#[68, 69, 67, 73, 77, 65, 76, 40]⟩ : ByteArray).size = 8 := rfl
    have hs8 : 8 + s.size ≤ 9223372036854775807 := by omega
    have hs8a : (9223372036854775807 < 8 + s.size) = False := eq_false (by omega)
    have hs8b : (9223372036854775807 < (⟨#[68, 69, 67, 73, 77, 65, 76, 40]⟩ : ByteArray).size + s.size) = False := eq_false (by rw [hsz]; omega)
    have hs8c : (9223372036854775807 < 8 + s.size + 1) = False := eq_false (by omega)
    have hs8d : (9223372036854775807 < ((⟨#[68, 69, 67, 73, 77, 65, 76, 40]⟩ : ByteArray) ++ s).size + 1) = False := eq_false (by rw [ByteArray.size_append, hsz]; omega)
    have hs9 : ((⟨#[68, 69, 67, 73, 77, 65, 76, 40]⟩ : ByteArray) ++ s).size + 1 ≤ 9223372036854775807 := by rw [ByteArray.size_append, hsz]; omega
    have HB2 := HB.out
    have hl1 := World.block_lt_of_cell? _ _ hc1
    have hl3 := World.block_lt_of_cell? _ _ hd3
    go_region_held3 (fun w' => w'.cell? ⟨gb1, 1, none⟩ = some (.int .i64 a0_1) ∧ w'.cell? ⟨gb3, 3, none⟩ = some (.string (⟨#[68, 69, 67, 73, 77, 65, 76, 40]⟩ : ByteArray)) ∧ Below w.heap.size w w') (first | exact ⟨hc1, hd3, below_drew1 HB2⟩ | exact ⟨(hb6.cell (p := ⟨gb1, 1, none⟩) hl1).trans hc1, (hb6.cell (p := ⟨gb3, 3, none⟩) hl3).trans hd3, below_step (below_drew1 HB2) hb6⟩ | go_keep) (first | (go_at_call 47; refine (num_FormatInt.calls a0_1 s _ AF.out (Gl.of HG.out (below_drew1 HB2))).mono ?_; rintro e w6 ⟨rfl, hb6⟩))
    have n1_ := Aside0.mk (below_step (below_drew1 HB2) hb6)
    clear HB HB2
    have HB := n1_
    go_wp2
    go_ret
    exact ⟨rfl, HB.out⟩
  rw [if_neg c3] at h
  have c3b : (a0_0 == 3) = false := beq_eq_false_iff_ne.mpr c3
  by_cases d1 : a0_0 = 1
  · rw [if_pos d1] at h
    obtain rfl := Option.some.inj h
    subst d1
    clear h c1 c5 c3 c1b c5b c3b
    go_wp2
    go_ret
    exact ⟨rfl, (by repeat (first | (with_reducible first | exact HB.out | apply below_alloc | apply pw_below_drewN | apply below_drew1 | refine below_set ?_ GE1.out | refine below_set ?_ GE3.out) | exact HB.out))⟩
  rw [if_neg d1] at h
  by_cases d2 : a0_0 = 2
  · rw [if_pos d2] at h
    obtain rfl := Option.some.inj h
    subst d2
    clear h c1 c5 c3 c1b c5b c3b
    go_wp2
    go_ret
    exact ⟨rfl, (by repeat (first | (with_reducible first | exact HB.out | apply below_alloc | apply pw_below_drewN | apply below_drew1 | refine below_set ?_ GE1.out | refine below_set ?_ GE3.out) | exact HB.out))⟩
  rw [if_neg d2] at h
  by_cases d4 : a0_0 = 4
  · rw [if_pos d4] at h
    obtain rfl := Option.some.inj h
    subst d4
    clear h c1 c5 c3 c1b c5b c3b
    go_wp2
    go_ret
    exact ⟨rfl, (by repeat (first | (with_reducible first | exact HB.out | apply below_alloc | apply pw_below_drewN | apply below_drew1 | refine below_set ?_ GE1.out | refine below_set ?_ GE3.out) | exact HB.out))⟩
  rw [if_neg d4] at h
  obtain rfl := Option.some.inj h
  obtain rfl : a0_0 = 5 := by omega
  clear h c1 c5 c3 c1b c5b c3b d1 d2 d4
  go_wp2
  go_ret
  exact ⟨rfl, (by repeat (first | (with_reducible first | exact HB.out | apply below_alloc | apply pw_below_drewN | apply below_drew1 | refine below_set ?_ GE1.out | refine below_set ?_ GE3.out) | exact HB.out))⟩


/-! ### strings_Join: function 49, by hand -/
def strings_Join.f (l0 : List ByteArray) (a1 : ByteArray) : Option (ByteArray) := if l0.length ≤ 140737488355328 ∧ (Lib.join (l0.map (·.data.toList)) a1.data.toList).length ≤ 140737488355328 then some ⟨(Lib.join (l0.map (·.data.toList)) a1.data.toList).toArray⟩ else none
theorem strings_Join.calls (A0 : Option Addr) (c0 : Nat) (l0 : List ByteArray) (a1 : ByteArray) (r : ByteArray) (w : World) (hr0 : Kd.C Kd.string w A0 l0.length l0) (hc0 : l0.length ≤ c0) (h : strings_Join.f l0 a1 = some r) :
    Calls Tryz.prog 49 #[.slice A0 l0.length c0, .string a1] w fun e w' => e = .returned (.string r) ∧ Below w.heap.size w w' := by
  unfold strings_Join.f at h
  by_cases h1 : l0.length ≤ 140737488355328 ∧ (Lib.join (l0.map (·.data.toList)) a1.data.toList).length ≤ 140737488355328
  · rw [if_pos h1] at h
    obtain rfl := Option.some.inj h
    have hat : ∀ j : Nat, j < l0.length → ∃ ad, A0 = some ad ∧ w.cell? (ad.add j) = some (.string (l0.getD j ⟨#[]⟩)) := by
      intro j hj
      obtain ⟨ad, c, e, hl, hK, hc⟩ := Kd.C_get hr0 (⟨#[]⟩ : ByteArray) (j : Int) (by omega) (by omega)
      refine ⟨ad, e, ?_⟩
      have hK' : c = [.string (l0.getD j ⟨#[]⟩)] := hK
      have := hc 0 (.string (l0.getD j ⟨#[]⟩)) (by rw [hK']; rfl)
      simpa [Kd.string, Kd.scalar] using this
    cases hl : l0 with
    | nil =>
      subst hl
      refine (Tryz.strings_Join_none A0 c0 a1 w).mono ?_
      rintro e w' ⟨rfl, rfl⟩
      exact ⟨rfl, Below.refl _ _⟩
    | cons x xs =>
      rw [← hl]
      obtain ⟨ad, rfl, h0⟩ := hat 0 (by rw [hl]; simp)
      obtain ⟨bk, o, sp⟩ := ad
      have h0' : w.cell? ⟨bk, o, sp⟩ = some (.string (l0.getD 0 ⟨#[]⟩)) := by simpa [Addr.add] using h0
      have hsp : sp = none := by
        unfold World.cell? at h0'
        cases ho : w.heap[bk]? with
        | none => simp [ho] at h0'
        | some ob =>
          cases ob <;> simp [ho] at h0'
          cases sp with
          | none => rfl
          | some q => simp at h0'
      subst hsp
      have hb : bk < w.heap.size := by
        unfold World.cell? at h0'
        cases ho : w.heap[bk]? with
        | none => simp [ho] at h0'
        | some ob => exact (Array.getElem?_eq_some_iff.1 ho).1
      refine Tryz.strings_Join bk o c0 l0 a1 w ?_ hb h1.1 hc0 h1.2
      intro j x hj
      have hlt : j < l0.length := (List.getElem?_eq_some_iff.1 hj).1
      obtain ⟨ad', e', h'⟩ := hat j hlt
      obtain rfl := Option.some.inj e'
      rw [List.getD_eq_getElem?_getD, hj] at h'
      by_cases hz : j = 0
      · subst hz; simpa [Addr.add] using h'
      · simpa [Addr.add, hz] using h'
  · rw [if_neg h1] at h; exact absurd h (by simp)


/-! ### schema_Show: function 16 -/
def schema_Show.l0 : Nat → List ByteArray → List (S36) → Int → Int → ByteArray → List (S36) → Option (ByteArray)
  | 0, _, _, _, _, _, _ => none
  | k + 1, x3, x8, x9, x10, x188000, x188001 => if x10 < x9 then (if 0 ≤ x10 then (if x10 < (x8.length : Int) then (if ((rd_T36 x8 x10).f0).size + 1 ≤ 9223372036854775807 then ((schema_TypeName.f ((rd_T36 x8 x10).f1.f0) ((rd_T36 x8 x10).f1.f1)).bind fun t190 => (if (((rd_T36 x8 x10).f0) ++ (⟨#[32]⟩ : ByteArray)).size + t190.size ≤ 9223372036854775807 then (if (rd_T36 x8 x10).f2 = true then (if ((((rd_T36 x8 x10).f0) ++ (⟨#[32]⟩ : ByteArray)) ++ t190).size + 9 ≤ 9223372036854775807 then (if x3.length < 8796093022208 then (schema_Show.l0 k (x3 ++ [((((rd_T36 x8 x10).f0) ++ (⟨#[32]⟩ : ByteArray)) ++ t190) ++ (⟨#[32, 78, 79, 84, 32, 78, 85, 76, 76]⟩ : ByteArray)]) x8 x9 (wrap64 (x10 + 1)) x188000 x188001) else (none)) else (none)) else (if x3.length < 8796093022208 then (schema_Show.l0 k (x3 ++ [(((rd_T36 x8 x10).f0) ++ (⟨#[32]⟩ : ByteArray)) ++ t190]) x8 x9 (wrap64 (x10 + 1)) x188000 x188001) else (none))) else (none))) else (none)) else (none)) else (none)) else (if 13 + x188000.size ≤ 9223372036854775807 then (if ((⟨#[67, 82, 69, 65, 84, 69, 32, 84, 65, 66, 76, 69, 32]⟩ : ByteArray) ++ x188000).size + 2 ≤ 9223372036854775807 then ((strings_Join.f x3 (⟨#[44, 32]⟩ : ByteArray)).bind fun t197 => (if (((⟨#[67, 82, 69, 65, 84, 69, 32, 84, 65, 66, 76, 69, 32]⟩ : ByteArray) ++ x188000) ++ (⟨#[32, 40]⟩ : ByteArray)).size + t197.size ≤ 9223372036854775807 then (if ((((⟨#[67, 82, 69, 65, 84, 69, 32, 84, 65, 66, 76, 69, 32]⟩ : ByteArray) ++ x188000) ++ (⟨#[32, 40]⟩ : ByteArray)) ++ t197).size + 1 ≤ 9223372036854775807 then (some (((((⟨#[67, 82, 69, 65, 84, 69, 32, 84, 65, 66, 76, 69, 32]⟩ : ByteArray) ++ x188000) ++ (⟨#[32, 40]⟩ : ByteArray)) ++ t197) ++ (⟨#[41]⟩ : ByteArray))) else (none)) else (none))) else (none)) else (none))
def schema_Show.f (k : Nat) (a0_0 : ByteArray) (l0_1 : List (S36)) : Option (ByteArray) := schema_Show.l0 k ([] : List ByteArray) l0_1 (l0_1.length : Int) 0 a0_0 l0_1
theorem schema_Show.mono_l : ∀ k, (∀ y0 y1 y2 y3 y4 y5, LeO (schema_Show.l0 k y0 y1 y2 y3 y4 y5) (schema_Show.l0 (k + 1) y0 y1 y2 y3 y4 y5))
  | 0 => fun _ _ _ _ _ _ r h => by simp [schema_Show.l0] at h
  | k + 1 => by
    have ih0 := schema_Show.mono_l k
    · intro y0 y1 y2 y3 y4 y5
      unfold schema_Show.l0
      repeat' first
      | (with_reducible exact ih0 _ _ _ _ _ _)
      | (with_reducible exact LeO.refl _)
      | (with_reducible exact LeO.none _)
      | (with_reducible refine LeO.ite ?_ ?_)
      | (with_reducible refine LeO.bind ?_ (fun _ => ?_))
      | exact ih0 _ _ _ _ _ _
      | exact LeO.none _
      | refine LeO.ite ?_ ?_
      | refine LeO.bind ?_ (fun _ => ?_)
theorem schema_Show.mono : ∀ a0 a1 k, LeO (schema_Show.f k a0 a1) (schema_Show.f (k + 1) a0 a1) := by
  intro a0 a1 k
  have ih0 := schema_Show.mono_l k
  unfold schema_Show.f
  repeat' first
      | (with_reducible exact ih0 _ _ _ _ _ _)
      | (with_reducible exact LeO.refl _)
      | (with_reducible exact LeO.none _)
      | (with_reducible refine LeO.ite ?_ ?_)
      | (with_reducible refine LeO.bind ?_ (fun _ => ?_))
      | exact ih0 _ _ _ _ _ _
      | exact LeO.none _
      | refine LeO.ite ?_ ?_
      | refine LeO.bind ?_ (fun _ => ?_)
def schema_Show.T5 : Bool × List (List Nat × List Nat) := (true, [([], []), ([0], [0]), ([1], [1]), ([], []), ([3], [3]), ([4], [4]), ([2, 5], [2, 5]), ([6, 5, 0, 1, 2, 3, 4, 5, 6], [6])])
def schema_Show.B5 : List Nat := [0, 1, 3, 0, 8, 24, 63, 127]
theorem schema_Show.tab5 : rtab .any (opsOf Tryz.f16 5) = schema_Show.T5 := by kernel_rfl
theorem schema_Show.bits5 : waitsOk schema_Show.T5.2 schema_Show.B5 = true := by kernel_rfl
def schema_Show.T10 : Bool × List (List Nat × List Nat) := (true, [([], []), ([0], [0]), ([1], [1]), ([2], [2]), ([], []), ([4], [4]), ([3, 5], [3, 5]), ([6], [6]), ([7, 5, 0, 1, 2, 3, 4, 5, 6, 7], [7])])
def schema_Show.B10 : List Nat := [0, 1, 3, 7, 0, 16, 63, 127, 255]
theorem schema_Show.tab10 : rtab .any (opsOf Tryz.f16 10) = schema_Show.T10 := by kernel_rfl
theorem schema_Show.bits10 : waitsOk schema_Show.T10.2 schema_Show.B10 = true := by kernel_rfl
set_option maxHeartbeats 8000000 in
set_option maxRecDepth 100000 in
theorem schema_Show.calls (k : Nat) (a0_0 : ByteArray) (A0_1 : Option Addr) (c0_1 : Nat) (l0_1 : List (S36)) (r : ByteArray) (w : World) (hr0_1 : Kd.C k36 w A0_1 l0_1.length l0_1) (hc0_1 : l0_1.length ≤ c0_1) (h : schema_Show.f k a0_0 l0_1 = some r) (hG : Gl w) :
    Calls Tryz.prog 16 #[.agg #[.string a0_0, .slice A0_1 l0_1.length c0_1]] w fun e w' => e = .returned (.string r) ∧ Below w.heap.size w w' := by
  have HG := Aside0.mk hG
  clear hG
  have hu24 := Tryz.underlying24
  have hu36 := Tryz.underlying36
  have hu34 := Tryz.underlying34
  have HR0_1 := Aside0.mk hr0_1
  have HC0_1 := Aside0.mk hc0_1
  clear hr0_1 hc0_1
  have HB := Aside0.mk (Below.refl w.heap.size w)
  have H : (schema_Show.l0 k ([] : List ByteArray) l0_1 (l0_1.length : Int) 0 a0_0 l0_1) = some r := h
  clear h
  have H' := Aside0.mk H
  clear H
  go_enter Tryz.func16, Tryz.ntmps16
  go_wp2_with (first | ((with_reducible refine gate_dst (N := 1) rfl ?_); refine box_event ?hg (N := 1) ?hd (cs := #[.string a0_0, .slice A0_1 l0_1.length c0_1]) (t := 24) ?hr ?_; (case hd => rfl); (case hg => rfl); (case hr => first | (go_simp; done) | (go_simp; rfl)); intro gb187 hg w2 hbox hb; have n0_ := Aside0.mk (below_step (by repeat (first | (with_reducible first | exact HB.out | apply below_alloc | apply pw_below_drewN | apply below_drew1) | exact HB.out)) hb); have n1_ := Aside0.mk (hbox); have n2_ := Aside0.mk ((by rw [hg]; exact (below_size (by repeat (first | (with_reducible first | exact HB.out | apply below_alloc | apply pw_below_drewN | apply below_drew1) | exact HB.out))) : w.heap.size ≤ gb187)); have n3_ := Aside0.mk ((by rw [hg]; exact (below_size (by repeat (first | (with_reducible first | exact HB.out | apply below_alloc | apply pw_below_drewN | apply below_drew1) | exact HB.out))) : w.heap.size ≤ gb187)); clear HB; have HB := n0_; have BK187 := n1_; have GW187 := n2_; have GE187 := n3_; clear n0_ n1_ n2_ n3_; clear hb hbox hg; have hcz3_0 : w2.cell? ⟨gb187, 0, none⟩ = some (.string a0_0) := (blk_cell BK187.out 0).trans rfl; have hcz3_1 : w2.cell? ⟨gb187, 1, none⟩ = some (.slice A0_1 l0_1.length c0_1) := (blk_cell BK187.out 1).trans rfl; have hfz3_0 := blk_frozen BK187.out 0; have hfz3_1 := blk_frozen BK187.out 1))
  go_loopg [3, 10] k (fun kq v3 v10 w' => ∃ (x3_1 : List ByteArray) (x10_1 : Int), v10 = .int .i64 x10_1 ∧ Aside0 (schema_Show.l0 kq x3_1 l0_1 (l0_1.length : Int) x10_1 a0_0 l0_1 = some r) ∧ Aside0 (kq ≤ k) ∧ Aside0 (Kd.R Kd.string 9 w' w.heap.size (fun _ => True) v3 x3_1) ∧ Aside0 (w'.heap[gb187]? = some (.cells #[.string a0_0, (.slice A0_1 l0_1.length c0_1)] 24 (0, 0))) ∧ Aside0 (Below w.heap.size w w'))
  case atStart => exact ⟨(([] : List ByteArray)), (0), (by first | rfl | (simp; done) | (simp [*]; done)), H', ⟨Nat.le_refl _⟩, ⟨by first | exact Kd.R_nil _ _ _ _ _ | exact Kd.N_nil _ _ _ _ _ | exact Kd.V_nil _ _ _ _ _ | exact Kd.Q_nil _ _ _ _ _ | exact Kd.S_nil _ _ _ _ _⟩, ⟨by (with_reducible repeat (first | refine blk_drewN ?_ _ | refine blk_drew ?_ | refine blk_alloc ?_ _)); exact BK187.out⟩, ⟨by repeat (first | (with_reducible first | exact HB.out | apply below_alloc | apply pw_below_drewN | apply below_drew1 | refine below_set ?_ GE187.out) | exact HB.out)⟩⟩
  case round =>
    clear H'
    try clear c1
    try clear p2
    try clear hcz3_0
    try clear hcz3_1
    try clear hfz3_0
    try clear hfz3_1
    obtain ⟨x3_1, x10_1, rfl, HA, HK1, HO_3, BK187, HB⟩ := hrel
    cases gk with
    | zero => exact absurd HA.out (by simp [schema_Show.l0])
    | succ k1 =>
      have H := HA.out
      clear HA
      simp only [schema_Show.l0] at H
      by_cases c4 : x10_1 < (l0_1.length : Int)
      · rw [if_pos c4] at H
        have c4b0 : decide (x10_1 < (l0_1.length : Int)) = true := decide_eq_true c4
        clear c4
        by_cases c5 : 0 ≤ x10_1
        · rw [if_pos c5] at H
          have c5b0 : decide (0 ≤ x10_1) = true := decide_eq_true c5
          clear c5
          by_cases c6 : x10_1 < (l0_1.length : Int)
          · rw [if_pos c6] at H
            have c6b0 : decide (x10_1 < (l0_1.length : Int)) = true := decide_eq_true c6
            clear c6
            by_cases c7 : ((rd_T36 l0_1 x10_1).f0).size + 1 ≤ 9223372036854775807
            · rw [if_pos c7] at H
              have c7b0 := eq_true c7
              (try (have c7n := c7; simp [size_lit] at c7n))
              (try (have c7m := eq_false (Nat.not_lt.2 c7); simp only [ByteArray.size_append, size_lit, List.length_cons, List.length_nil, Nat.reduceAdd, Nat.zero_add] at c7m))
              have c7b1 : decide (((rd_T36 l0_1 x10_1).f0).size + 1 ≤ 9223372036854775807) = true := decide_eq_true c7
              try have c7b2 : (9223372036854775807 < ((rd_T36 l0_1 x10_1).f0).size + 1) = False := eq_false (Nat.not_lt.2 c7)
              replace H := Option.bind_eq_some_iff.mp H
              obtain ⟨t190, A80, H⟩ := H
              replace H : (if (((rd_T36 l0_1 x10_1).f0) ++ (⟨#[32]⟩ : ByteArray)).size + t190.size ≤ 9223372036854775807 then (if (rd_T36 l0_1 x10_1).f2 = true then (if ((((rd_T36 l0_1 x10_1).f0) ++ (⟨#[32]⟩ : ByteArray)) ++ t190).size + 9 ≤ 9223372036854775807 then (if x3_1.length < 8796093022208 then (schema_Show.l0 k1 (x3_1 ++ [((((rd_T36 l0_1 x10_1).f0) ++ (⟨#[32]⟩ : ByteArray)) ++ t190) ++ (⟨#[32, 78, 79, 84, 32, 78, 85, 76, 76]⟩ : ByteArray)]) l0_1 (l0_1.length : Int) (wrap64 (x10_1 + 1)) a0_0 l0_1) else (none)) else (none)) else (if x3_1.length < 8796093022208 then (schema_Show.l0 k1 (x3_1 ++ [(((rd_T36 l0_1 x10_1).f0) ++ (⟨#[32]⟩ : ByteArray)) ++ t190]) l0_1 (l0_1.length : Int) (wrap64 (x10_1 + 1)) a0_0 l0_1) else (none))) else (none)) = some r := H
              have A8 := Aside0.mk A80
              clear A80
              by_cases c9 : (((rd_T36 l0_1 x10_1).f0) ++ (⟨#[32]⟩ : ByteArray)).size + t190.size ≤ 9223372036854775807
              · rw [if_pos c9] at H
                have c9b0 := eq_true c9
                (try (have c9n := c9; simp [size_lit] at c9n))
                (try (have c9m := eq_false (Nat.not_lt.2 c9); simp only [ByteArray.size_append, size_lit, List.length_cons, List.length_nil, Nat.reduceAdd, Nat.zero_add] at c9m))
                have c9b1 : decide ((((rd_T36 l0_1 x10_1).f0) ++ (⟨#[32]⟩ : ByteArray)).size + t190.size ≤ 9223372036854775807) = true := decide_eq_true c9
                try have c9b2 : (9223372036854775807 < (((rd_T36 l0_1 x10_1).f0) ++ (⟨#[32]⟩ : ByteArray)).size + t190.size) = False := eq_false (Nat.not_lt.2 c9)
                obtain ⟨bq10, hbq10⟩ : ∃ b_ : Bool, b_ = ((rd_T36 l0_1 x10_1).f2) := ⟨_, rfl⟩
                replace H : (if bq10 = true then (if ((((rd_T36 l0_1 x10_1).f0) ++ (⟨#[32]⟩ : ByteArray)) ++ t190).size + 9 ≤ 9223372036854775807 then (if x3_1.length < 8796093022208 then (schema_Show.l0 k1 (x3_1 ++ [((((rd_T36 l0_1 x10_1).f0) ++ (⟨#[32]⟩ : ByteArray)) ++ t190) ++ (⟨#[32, 78, 79, 84, 32, 78, 85, 76, 76]⟩ : ByteArray)]) l0_1 (l0_1.length : Int) (wrap64 (x10_1 + 1)) a0_0 l0_1) else (none)) else (none)) else (if x3_1.length < 8796093022208 then (schema_Show.l0 k1 (x3_1 ++ [(((rd_T36 l0_1 x10_1).f0) ++ (⟨#[32]⟩ : ByteArray)) ++ t190]) l0_1 (l0_1.length : Int) (wrap64 (x10_1 + 1)) a0_0 l0_1) else (none))) = some r := by rw [← hbq10] at H; exact H
                have Nbq10 := Aside0.mk hbq10
                clear hbq10
                by_cases c11 : bq10 = true
                · subst c11
                  have H1 : (if ((((rd_T36 l0_1 x10_1).f0) ++ (⟨#[32]⟩ : ByteArray)) ++ t190).size + 9 ≤ 9223372036854775807 then (if x3_1.length < 8796093022208 then (schema_Show.l0 k1 (x3_1 ++ [((((rd_T36 l0_1 x10_1).f0) ++ (⟨#[32]⟩ : ByteArray)) ++ t190) ++ (⟨#[32, 78, 79, 84, 32, 78, 85, 76, 76]⟩ : ByteArray)]) l0_1 (l0_1.length : Int) (wrap64 (x10_1 + 1)) a0_0 l0_1) else (none)) else (none)) = some r := by rw [if_pos rfl] at H; exact H
                  clear H
                  have H := H1
                  clear H1
                  by_cases c12 : ((((rd_T36 l0_1 x10_1).f0) ++ (⟨#[32]⟩ : ByteArray)) ++ t190).size + 9 ≤ 9223372036854775807
                  · rw [if_pos c12] at H
                    have c12b0 := eq_true c12
                    (try (have c12n := c12; simp [size_lit] at c12n))
                    (try (have c12m := eq_false (Nat.not_lt.2 c12); simp only [ByteArray.size_append, size_lit, List.length_cons, List.length_nil, Nat.reduceAdd, Nat.zero_add] at c12m))
                    have c12b1 : decide (((((rd_T36 l0_1 x10_1).f0) ++ (⟨#[32]⟩ : ByteArray)) ++ t190).size + 9 ≤ 9223372036854775807) = true := decide_eq_true c12
                    try have c12b2 : (9223372036854775807 < ((((rd_T36 l0_1 x10_1).f0) ++ (⟨#[32]⟩ : ByteArray)) ++ t190).size + 9) = False := eq_false (Nat.not_lt.2 c12)
                    by_cases c13 : x3_1.length < 8796093022208
                    · rw [if_pos c13] at H
                      have LMc13 := Aside0.mk c13
                      clear c13
                      obtain ⟨y191, hy191⟩ : ∃ y_ : List ByteArray, y_ = (x3_1 ++ [((((rd_T36 l0_1 x10_1).f0) ++ (⟨#[32]⟩ : ByteArray)) ++ t190) ++ (⟨#[32, 78, 79, 84, 32, 78, 85, 76, 76]⟩ : ByteArray)]) := ⟨_, rfl⟩
                      replace H : (schema_Show.l0 k1 y191 l0_1 (l0_1.length : Int) (wrap64 (x10_1 + 1)) a0_0 l0_1) = some r := by first | (rw [hy191]; with_reducible exact H) | (have H2_ := (Option.bind_some _ _).symm.trans H; rw [hy191]; with_reducible exact H2_) | (have H2_ := (Option.bind_some _ _).symm.trans H; with_reducible exact H2_) | with_reducible exact H | (rw [hy191]; exact H) | exact H
                      have Ny191 := Aside0.mk hy191
                      clear hy191
                      have H' := Aside0.mk H
                      clear H
                      have p188 : 0 ≤ (x10_1 : Int) := of_decide_eq_true (by first | (with_reducible assumption) | assumption)
                      have q188 : x10_1 < (l0_1.length : Int) := of_decide_eq_true (by first | (with_reducible assumption) | assumption)
                      obtain ⟨ad188, e188, hx188_0, hx188_1, hx188_2, hx188_3⟩ := at_T36 HR0_1.out x10_1 p188 q188
                      (try rw [← Nbq10.out] at hx188_3)
                      cases e188
                      replace hx188_0 := (HB.out.cell (World.block_lt_of_cell? w _ hx188_0)).trans hx188_0
                      replace hx188_1 := (HB.out.cell (World.block_lt_of_cell? w _ hx188_1)).trans hx188_1
                      replace hx188_2 := (HB.out.cell (World.block_lt_of_cell? w _ hx188_2)).trans hx188_2
                      replace hx188_3 := (HB.out.cell (World.block_lt_of_cell? w _ hx188_3)).trans hx188_3
                      replace p188 := eq_true p188
                      replace q188 := eq_true q188
                      try go_wp2_with (first | ((with_reducible refine gate_dst (N := 5) rfl ?_); refine box_event ?hg (N := 5) ?hd (cs := #[.string (⟨#[]⟩ : ByteArray), .int .i64 0, .int .i64 0, .bool false]) (t := 36) ?hr ?_; (case hd => rfl); (case hg => rfl); (case hr => first | (go_simp; done) | (go_simp; rfl)); intro gb189 hg w14 hbox hb; have n0_ := Aside0.mk (Kd.R_below (by (with_reducible repeat (first | apply Kd.R_alloc | apply Kd.R_drewN | apply Kd.R_drew)); exact HO_3.out) hb); have n1_ := Aside0.mk (blk_below (g := gb187) (o := .cells #[.string a0_0, .slice (some ad188) l0_1.length c0_1] 24 (0, 0)) (by (with_reducible repeat (first | refine blk_drewN ?_ _ | refine blk_drew ?_ | refine blk_alloc ?_ _)); exact BK187.out) hb); have n2_ := Aside0.mk (below_step (by repeat (first | (with_reducible first | exact HB.out | apply below_alloc | apply pw_below_drewN | apply below_drew1 | refine below_set ?_ GE187.out) | exact HB.out)) hb); have n3_ := Aside0.mk (hbox); have n4_ := Aside0.mk ((by rw [hg]; exact (below_size (by repeat (first | (with_reducible first | exact HB.out | apply below_alloc | apply pw_below_drewN | apply below_drew1 | refine below_set ?_ GE187.out) | exact HB.out))) : w.heap.size ≤ gb189)); have n5_ := Aside0.mk ((by rw [hg]; exact (below_size (by repeat (first | (with_reducible first | exact HB.out | apply below_alloc | apply pw_below_drewN | apply below_drew1 | refine below_set ?_ GE187.out) | exact HB.out))) : w.heap.size ≤ gb189)); have n6_ := Aside0.mk ((by rw [hg]; exact Nat.ne_of_lt (blk_lt (g := gb187) (o := .cells #[.string a0_0, .slice (some ad188) l0_1.length c0_1] 24 (0, 0)) (by (with_reducible repeat (first | refine blk_drewN ?_ _ | refine blk_drew ?_ | refine blk_alloc ?_ _)); exact BK187.out)) : gb187 ≠ gb189)); have n7_ := Aside0.mk ((by rw [hg]; exact Nat.ne_of_gt (blk_lt (g := gb187) (o := .cells #[.string a0_0, .slice (some ad188) l0_1.length c0_1] 24 (0, 0)) (by (with_reducible repeat (first | refine blk_drewN ?_ _ | refine blk_drew ?_ | refine blk_alloc ?_ _)); exact BK187.out)) : gb189 ≠ gb187)); clear HO_3; clear BK187; clear HB; have HO_3 := n0_; have BK187 := n1_; have HB := n2_; have BK189 := n3_; have GW189 := n4_; have GE189 := n5_; have NB187_189 := n6_; have NB189_187 := n7_; clear n0_ n1_ n2_ n3_ n4_ n5_ n6_ n7_; clear hb hbox hg; have hnb15 := NB189_187.out; have hnc15 := NB187_189.out; have hcz16_0 : w14.cell? ⟨gb189, 0, none⟩ = some (.string (⟨#[]⟩ : ByteArray)) := (blk_cell BK189.out 0).trans rfl; have hcz16_1 : w14.cell? ⟨gb189, 1, none⟩ = some (.int .i64 0) := (blk_cell BK189.out 1).trans rfl; have hcz16_2 : w14.cell? ⟨gb189, 2, none⟩ = some (.int .i64 0) := (blk_cell BK189.out 2).trans rfl; have hcz16_3 : w14.cell? ⟨gb189, 3, none⟩ = some (.bool false) := (blk_cell BK189.out 3).trans rfl; have hfz16_0 := blk_frozen BK189.out 0; have hfz16_1 := blk_frozen BK189.out 1; have hfz16_2 := blk_frozen BK189.out 2; have hfz16_3 := blk_frozen BK189.out 3))
                      have n0_ : Aside0 (Kd.R Kd.string 9 ((((w14.setCell ⟨gb189, 0, none⟩ (.string ((rd_T36 l0_1 x10_1).f0))).setCell ⟨gb189, 1, none⟩ (.int .i64 ((rd_T36 l0_1 x10_1).f1.f0))).setCell ⟨gb189, 2, none⟩ (.int .i64 ((rd_T36 l0_1 x10_1).f1.f1))).setCell ⟨gb189, 3, none⟩ (.bool true)) w.heap.size (fun _ => True) u3 x3_1) := ⟨by (with_reducible repeat (first | apply Kd.R_alloc | apply Kd.R_drewN | apply Kd.R_drew)); exact Kd.R_mono (Kd.R_far (p := ⟨gb189, 3, none⟩) (Kd.R_far (p := ⟨gb189, 2, none⟩) (Kd.R_far (p := ⟨gb189, 1, none⟩) (Kd.R_far (p := ⟨gb189, 0, none⟩) (Kd.R_types HO_3.out BK189.out (by decide)) (fun _ hk => hk.2) (.string ((rd_T36 l0_1 x10_1).f0))) (fun _ hk => hk.2) (.int .i64 ((rd_T36 l0_1 x10_1).f1.f0))) (fun _ hk => hk.2) (.int .i64 ((rd_T36 l0_1 x10_1).f1.f1))) (fun _ hk => hk.2) (.bool true)) (fun _ hk => trivial)⟩
                      have n1_ : Aside0 (((((w14.setCell ⟨gb189, 0, none⟩ (.string ((rd_T36 l0_1 x10_1).f0))).setCell ⟨gb189, 1, none⟩ (.int .i64 ((rd_T36 l0_1 x10_1).f1.f0))).setCell ⟨gb189, 2, none⟩ (.int .i64 ((rd_T36 l0_1 x10_1).f1.f1))).setCell ⟨gb189, 3, none⟩ (.bool true)).heap[gb187]? = some (.cells #[.string a0_0, .slice (some ad188) l0_1.length c0_1] 24 (0, 0))) := ⟨by (with_reducible repeat (first | refine blk_drewN ?_ _ | refine blk_drew ?_ | refine blk_alloc ?_ _)); refine blk_far ?_ NB187_189.out _; (with_reducible repeat (first | refine blk_drewN ?_ _ | refine blk_drew ?_ | refine blk_alloc ?_ _)); refine blk_far ?_ NB187_189.out _; (with_reducible repeat (first | refine blk_drewN ?_ _ | refine blk_drew ?_ | refine blk_alloc ?_ _)); refine blk_far ?_ NB187_189.out _; (with_reducible repeat (first | refine blk_drewN ?_ _ | refine blk_drew ?_ | refine blk_alloc ?_ _)); refine blk_far ?_ NB187_189.out _; (with_reducible repeat (first | refine blk_drewN ?_ _ | refine blk_drew ?_ | refine blk_alloc ?_ _)); exact BK187.out⟩
                      have n2_ : Aside0 (((((w14.setCell ⟨gb189, 0, none⟩ (.string ((rd_T36 l0_1 x10_1).f0))).setCell ⟨gb189, 1, none⟩ (.int .i64 ((rd_T36 l0_1 x10_1).f1.f0))).setCell ⟨gb189, 2, none⟩ (.int .i64 ((rd_T36 l0_1 x10_1).f1.f1))).setCell ⟨gb189, 3, none⟩ (.bool true)).heap[gb189]? = some (.cells #[.string ((rd_T36 l0_1 x10_1).f0), .int .i64 ((rd_T36 l0_1 x10_1).f1.f0), .int .i64 ((rd_T36 l0_1 x10_1).f1.f1), .bool true] 36 (0, 0))) := ⟨by (with_reducible repeat (first | refine blk_drewN ?_ _ | refine blk_drew ?_ | refine blk_alloc ?_ _)); refine blk_put (cs := #[.string ((rd_T36 l0_1 x10_1).f0), .int .i64 ((rd_T36 l0_1 x10_1).f1.f0), .int .i64 ((rd_T36 l0_1 x10_1).f1.f1), .bool false]) ?_ 3 _ rfl; (with_reducible repeat (first | refine blk_drewN ?_ _ | refine blk_drew ?_ | refine blk_alloc ?_ _)); refine blk_put (cs := #[.string ((rd_T36 l0_1 x10_1).f0), .int .i64 ((rd_T36 l0_1 x10_1).f1.f0), .int .i64 0, .bool false]) ?_ 2 _ rfl; (with_reducible repeat (first | refine blk_drewN ?_ _ | refine blk_drew ?_ | refine blk_alloc ?_ _)); refine blk_put (cs := #[.string ((rd_T36 l0_1 x10_1).f0), .int .i64 0, .int .i64 0, .bool false]) ?_ 1 _ rfl; (with_reducible repeat (first | refine blk_drewN ?_ _ | refine blk_drew ?_ | refine blk_alloc ?_ _)); refine blk_put (cs := #[.string (⟨#[]⟩ : ByteArray), .int .i64 0, .int .i64 0, .bool false]) ?_ 0 _ rfl; (with_reducible repeat (first | refine blk_drewN ?_ _ | refine blk_drew ?_ | refine blk_alloc ?_ _)); exact BK189.out⟩
                      have n3_ : Aside0 (Below w.heap.size w ((((w14.setCell ⟨gb189, 0, none⟩ (.string ((rd_T36 l0_1 x10_1).f0))).setCell ⟨gb189, 1, none⟩ (.int .i64 ((rd_T36 l0_1 x10_1).f1.f0))).setCell ⟨gb189, 2, none⟩ (.int .i64 ((rd_T36 l0_1 x10_1).f1.f1))).setCell ⟨gb189, 3, none⟩ (.bool true))) := ⟨by repeat (first | (with_reducible first | exact HB.out | apply below_alloc | apply pw_below_drewN | apply below_drew1 | refine below_set ?_ GE187.out | refine below_set ?_ GE189.out) | exact HB.out)⟩
                      (try clear HO_3)
                      (try clear BK187)
                      (try clear BK189)
                      (try clear HB)
                      generalize ((((w14.setCell ⟨gb189, 0, none⟩ (.string ((rd_T36 l0_1 x10_1).f0))).setCell ⟨gb189, 1, none⟩ (.int .i64 ((rd_T36 l0_1 x10_1).f1.f0))).setCell ⟨gb189, 2, none⟩ (.int .i64 ((rd_T36 l0_1 x10_1).f1.f1))).setCell ⟨gb189, 3, none⟩ (.bool true)) = w17 at n0_ n1_ n2_ n3_ ⊢
                      have HO_3 := n0_
                      have BK187 := n1_
                      have BK189 := n2_
                      have HB := n3_
                      clear n0_ n1_ n2_ n3_
                      have n0_ := Aside0.mk (Kd.R_drew HO_3.out)
                      have n1_ := Aside0.mk (blk_drew BK187.out)
                      have n2_ := Aside0.mk (blk_drew BK189.out)
                      have n3_ := Aside0.mk (below_drew1 HB.out)
                      clear HO_3
                      clear BK187
                      clear BK189
                      clear HB
                      have HO_3 := n0_
                      have BK187 := n1_
                      have BK189 := n2_
                      have HB := n3_
                      clear n0_ n1_ n2_ n3_
                      refine start_ (n := 8) (S := fun w' => w'.cell? ⟨gb189, 0, none⟩ = some (.string ((rd_T36 l0_1 x10_1).f0)) ∧ w'.cell? ⟨gb189, 1, none⟩ = some (.int .i64 ((rd_T36 l0_1 x10_1).f1.f0)) ∧ w'.cell? ⟨gb189, 2, none⟩ = some (.int .i64 ((rd_T36 l0_1 x10_1).f1.f1)) ∧ w'.cell? ⟨gb189, 3, none⟩ = some (.bool true)) (ds := []) #[false, false, false, false, false, false, false, false] (by kernel_rfl) rfl rfl ⟨(blk_cell BK189.out 0).trans rfl, (blk_cell BK189.out 1).trans rfl, (blk_cell BK189.out 2).trans rfl, (blk_cell BK189.out 3).trans rfl⟩ (fun hHeld => ?_); refine with_tabW schema_Show.tab5 schema_Show.bits5 (fun HT_ HW_ => ?_)
                      generalize w17.drew = w18 at HO_3 BK187 BK189 HB hHeld ⊢
                      refine pure_ (i := 0) (N := some 14) (v := ?_) (a' := ?_) #[true, false, false, false, false, false, false, false] rfl rfl (any_of HT_.out (by kernel_rfl)) (fun _ _ _ h => h) (Or.inl ⟨by rfl, ?_⟩) ?_ ?_
                      rotate_left
                      · intro w'
                        go_simp
                        with_reducible rfl
                      rotate_left
                      · simp only [Act.put, List.setIfInBounds_toArray, List.set_cons_zero, List.set_cons_succ, i64_w, i32_w]
                        rfl
                      refine pure_ (i := 3) (N := some 17) (v := ?_) (a' := ?_) #[true, false, false, true, false, false, false, false] rfl rfl (any_of HT_.out (by kernel_rfl)) (fun _ _ _ h => h) (Or.inl ⟨by rfl, ?_⟩) ?_ ?_
                      rotate_left
                      · intro w'
                        go_simp
                        with_reducible rfl
                      rotate_left
                      · simp only [Act.put, List.setIfInBounds_toArray, List.set_cons_zero, List.set_cons_succ, i64_w, i32_w]
                        rfl
                      refine take_ (i := 1) (N := some 15) (v := ?_) (a' := ?_) #[true, true, false, true, false, false, false, false] rfl rfl (take_ofW HT_.out HW_.out (by kernel_rfl)) (fun _ _ _ h => h) (Or.inl ⟨by rfl, ?_⟩) hHeld ?_ ?_
                      rotate_left
                      · rintro w' ⟨s0, s1, s2, s3⟩
                        go_simp
                        with_reducible rfl
                      rotate_left
                      · simp only [Act.put, List.setIfInBounds_toArray, List.set_cons_zero, List.set_cons_succ, i64_w, i32_w]
                        rfl
                      refine pure_ (i := 2) (N := some 16) (v := ?_) (a' := ?_) #[true, true, true, true, false, false, false, false] rfl rfl (any_of HT_.out (by kernel_rfl)) (fun _ _ _ h => h) (Or.inl ⟨by rfl, ?_⟩) ?_ ?_
                      rotate_left
                      · intro w'
                        go_simp
                        with_reducible rfl
                      rotate_left
                      · simp only [Act.put, List.setIfInBounds_toArray, List.set_cons_zero, List.set_cons_succ, i64_w, i32_w]
                        rfl
                      refine take_ (i := 4) (N := some 18) (v := ?_) (a' := ?_) #[true, true, true, true, true, false, false, false] rfl rfl (take_ofW HT_.out HW_.out (by kernel_rfl)) (fun _ _ _ h => h) (Or.inl ⟨by rfl, ?_⟩) hHeld ?_ ?_
                      rotate_left
                      · rintro w' ⟨s0, s1, s2, s3⟩
                        go_simp
                        with_reducible rfl
                      rotate_left
                      · simp only [Act.put, List.setIfInBounds_toArray, List.set_cons_zero, List.set_cons_succ, i64_w, i32_w]
                        rfl
                      refine one_ (i := 5) (N := some 19) #[true, true, true, true, true, true, false, false] rfl rfl (one_of HT_.out (by kernel_rfl)) (by decide) (fun K hK => ?_)
                      refine goes_ Tryz.func14 (by kernel_rfl) rfl #[.agg #[.int .i64 ((rd_T36 l0_1 x10_1).f1.f0), .int .i64 ((rd_T36 l0_1 x10_1).f1.f1)]] (by rfl) rfl rfl (by (try simp only [List.map_toArray, List.map_cons, List.map_nil]); first | done | rfl | (simp only [List.length_drop, List.length_take]; rfl)) ?_
                      with_reducible refine (schema_TypeName.calls ((rd_T36 l0_1 x10_1).f1.f0) ((rd_T36 l0_1 x10_1).f1.f1) t190 _ A8.out (Gl.of HG.out (by repeat (first | exact HB.out | apply below_alloc | apply pw_below_drewN | apply below_drew1 | refine below_set ?_ GE187.out | refine below_set ?_ GE189.out)))).mono ?_
                      rintro e w19 ⟨rfl, hb⟩
                      refine ⟨_, rfl, ?_⟩
                      have n0_ := Aside0.mk (Kd.R_below (by (with_reducible repeat (first | apply Kd.R_alloc | apply Kd.R_drewN | apply Kd.R_drew)); exact HO_3.out) hb)
                      have n1_ := Aside0.mk (blk_below (g := gb187) (o := .cells #[.string a0_0, .slice (some ad188) l0_1.length c0_1] 24 (0, 0)) (by (with_reducible repeat (first | refine blk_drewN ?_ _ | refine blk_drew ?_ | refine blk_alloc ?_ _)); exact BK187.out) hb)
                      have n2_ := Aside0.mk (blk_below (g := gb189) (o := .cells #[.string ((rd_T36 l0_1 x10_1).f0), .int .i64 ((rd_T36 l0_1 x10_1).f1.f0), .int .i64 ((rd_T36 l0_1 x10_1).f1.f1), .bool true] 36 (0, 0)) (by (with_reducible repeat (first | refine blk_drewN ?_ _ | refine blk_drew ?_ | refine blk_alloc ?_ _)); exact BK189.out) hb)
                      have n3_ := Aside0.mk (below_step (by repeat (first | (with_reducible first | exact HB.out | apply below_alloc | apply pw_below_drewN | apply below_drew1 | refine below_set ?_ GE187.out | refine below_set ?_ GE189.out) | exact HB.out)) hb)
                      clear HO_3
                      clear BK187
                      clear BK189
                      clear HB
                      have HO_3 := n0_
                      have BK187 := n1_
                      have BK189 := n2_
                      have HB := n3_
                      clear n0_ n1_ n2_ n3_
                      (try clear hb)
                      (try clear hb2)
                      (try clear hk)
                      (try clear hi)
                      refine hK.out _ _ ⟨(blk_cell BK189.out 0).trans rfl, (blk_cell BK189.out 1).trans rfl, (blk_cell BK189.out 2).trans rfl, (blk_cell BK189.out 3).trans rfl⟩ (fun hHeld => ?_)
                      clear hK K
                      refine norm_ (a' := ?_) ?_ ?_
                      rotate_left
                      · show Act.put _ (some 19) _ = _
                        simp only [Act.put, List.setIfInBounds_toArray, List.set_cons_zero, List.set_cons_succ, i64_w, i32_w]
                        rfl
                      refine pure_ (i := 6) (N := some 20) (v := ?_) (a' := ?_) #[true, true, true, true, true, true, true, false] rfl rfl (any_of HT_.out (by kernel_rfl)) (fun _ _ _ h => h) (Or.inl ⟨by rfl, ?_⟩) ?_ ?_
                      rotate_left
                      · intro w'
                        go_simp
                        with_reducible rfl
                      rotate_left
                      · simp only [Act.put, List.setIfInBounds_toArray, List.set_cons_zero, List.set_cons_succ, i64_w, i32_w]
                        rfl
                      refine pure_ (i := 7) (N := some 6) (v := ?_) (a' := ?_) #[true, true, true, true, true, true, true, true] rfl rfl (any_of HT_.out (by kernel_rfl)) (fun _ _ _ h => h) (Or.inl ⟨by rfl, ?_⟩) ?_ ?_
                      rotate_left
                      · intro w'
                        go_simp
                        with_reducible rfl
                      rotate_left
                      · simp only [Act.put, List.setIfInBounds_toArray, List.set_cons_zero, List.set_cons_succ, i64_w, i32_w]
                        rfl
                      refine done_ (done_of HT_.out (by kernel_rfl)) ?_
                      have hcz20_0 : w19.cell? ⟨gb189, 0, none⟩ = some (.string ((rd_T36 l0_1 x10_1).f0)) := (blk_cell BK189.out 0).trans rfl
                      have hcz20_1 : w19.cell? ⟨gb189, 1, none⟩ = some (.int .i64 ((rd_T36 l0_1 x10_1).f1.f0)) := (blk_cell BK189.out 1).trans rfl
                      have hcz20_2 : w19.cell? ⟨gb189, 2, none⟩ = some (.int .i64 ((rd_T36 l0_1 x10_1).f1.f1)) := (blk_cell BK189.out 2).trans rfl
                      have hcz20_3 : w19.cell? ⟨gb189, 3, none⟩ = some (.bool true) := (blk_cell BK189.out 3).trans rfl
                      have hfz20_0 := blk_frozen BK189.out 0
                      have hfz20_1 := blk_frozen BK189.out 1
                      have hfz20_2 := blk_frozen BK189.out 2
                      have hfz20_3 := blk_frozen BK189.out 3
                      try go_wp2_with (first | ((with_reducible refine gate_builtin (b := .append) (xs := #[.tmp 25, .tmp 27]) rfl ?_); at_builtin; refine Kd.R_append Kd.string (w0 := w) w.heap.size rfl (.tmp 25) (.tmp 27) 75 9 (.string ⟨#[]⟩) 16 rfl Tryz.underlying75 info9 rfl (by decide) (by omega) u3 x3_1 (((((rd_T36 l0_1 x10_1).f0) ++ (⟨#[32]⟩ : ByteArray)) ++ t190) ++ (⟨#[32, 78, 79, 84, 32, 78, 85, 76, 76]⟩ : ByteArray)) [.string (((((rd_T36 l0_1 x10_1).f0) ++ (⟨#[32]⟩ : ByteArray)) ++ t190) ++ (⟨#[32, 78, 79, 84, 32, 78, 85, 76, 76]⟩ : ByteArray))] (fun _ => True) (fun _ => False) rfl rfl ?aP (fun _ hk => hk.elim) ?aF ?aO ?aB ?aS ?aL ?_; (case aP => exact rfl); (case aB => exact (by repeat (first | (with_reducible first | exact HB.out | apply below_alloc | apply pw_below_drewN | apply below_drew1 | refine below_set ?_ GE187.out | refine below_set ?_ GE189.out) | exact HB.out))); (case aF => exact (fun _ _ => trivial)); (case aO => exact (by (with_reducible repeat (first | apply Kd.R_alloc | apply Kd.R_drewN | apply Kd.R_drew)); exact HO_3.out)); (case aS => exact (below_size (by repeat (first | (with_reducible first | exact HB.out | apply below_alloc | apply pw_below_drewN | apply below_drew1 | refine below_set ?_ GE187.out | refine below_set ?_ GE189.out) | exact HB.out)))); (case aL => have := LMc13.out; omega); intro v192 w21 ho hb hg hat; rw [← Ny191.out] at ho; have n0_ := Aside0.mk (blk_grown (g := gb187) (o := .cells #[.string a0_0, .slice (some ad188) l0_1.length c0_1] 24 (0, 0)) (by (with_reducible repeat (first | refine blk_drewN ?_ _ | refine blk_drew ?_ | refine blk_alloc ?_ _)); exact BK187.out) hg (Kd.R_ne HO_3.out BK187.out (by decide))); have n1_ := Aside0.mk (blk_grown (g := gb189) (o := .cells #[.string ((rd_T36 l0_1 x10_1).f0), .int .i64 ((rd_T36 l0_1 x10_1).f1.f0), .int .i64 ((rd_T36 l0_1 x10_1).f1.f1), .bool true] 36 (0, 0)) (by (with_reducible repeat (first | refine blk_drewN ?_ _ | refine blk_drew ?_ | refine blk_alloc ?_ _)); exact BK189.out) hg (Kd.R_ne HO_3.out BK189.out (by decide))); have n2_ := Aside0.mk (hb); have n3_ := Aside0.mk (ho); clear BK187; clear BK189; clear HB; clear HO_3; have BK187 := n0_; have BK189 := n1_; have HB := n2_; have HO193 := n3_; clear n0_ n1_ n2_ n3_; clear ho hb hg hat))
                      go_roundg k1
                      case measure => have := HK1.out; omega
                      case rel => exact ⟨(y191), (wrap64 (x10_1 + 1)), (by first | rfl | (simp; done) | (simp [*]; done)), H', ⟨by have := HK1.out; omega⟩, ⟨by (with_reducible repeat (first | apply Kd.R_alloc | apply Kd.R_drewN | apply Kd.R_drew)); exact HO193.out⟩, ⟨by (with_reducible repeat (first | refine blk_drewN ?_ _ | refine blk_drew ?_ | refine blk_alloc ?_ _)); exact BK187.out⟩, ⟨by repeat (first | (with_reducible first | exact HB.out | apply below_alloc | apply pw_below_drewN | apply below_drew1 | refine below_set ?_ GE187.out | refine below_set ?_ GE189.out) | exact HB.out)⟩⟩
                    · rw [if_neg c13] at H
                      exact absurd H (by simp)
                  · rw [if_neg c12] at H
                    exact absurd H (by simp)
                · replace c11 := Bool.eq_false_iff.mpr c11
                  subst c11
                  have H1 : (if x3_1.length < 8796093022208 then (schema_Show.l0 k1 (x3_1 ++ [(((rd_T36 l0_1 x10_1).f0) ++ (⟨#[32]⟩ : ByteArray)) ++ t190]) l0_1 (l0_1.length : Int) (wrap64 (x10_1 + 1)) a0_0 l0_1) else (none)) = some r := by rw [if_neg (show ¬ (false = true) by decide)] at H; exact H
                  clear H
                  have H := H1
                  clear H1
                  by_cases c22 : x3_1.length < 8796093022208
                  · rw [if_pos c22] at H
                    have LMc22 := Aside0.mk c22
                    clear c22
                    obtain ⟨y194, hy194⟩ : ∃ y_ : List ByteArray, y_ = (x3_1 ++ [(((rd_T36 l0_1 x10_1).f0) ++ (⟨#[32]⟩ : ByteArray)) ++ t190]) := ⟨_, rfl⟩
                    replace H : (schema_Show.l0 k1 y194 l0_1 (l0_1.length : Int) (wrap64 (x10_1 + 1)) a0_0 l0_1) = some r := by first | (rw [hy194]; with_reducible exact H) | (have H2_ := (Option.bind_some _ _).symm.trans H; rw [hy194]; with_reducible exact H2_) | (have H2_ := (Option.bind_some _ _).symm.trans H; with_reducible exact H2_) | with_reducible exact H | (rw [hy194]; exact H) | exact H
                    have Ny194 := Aside0.mk hy194
                    clear hy194
                    have H' := Aside0.mk H
                    clear H
                    have p188 : 0 ≤ (x10_1 : Int) := of_decide_eq_true (by first | (with_reducible assumption) | assumption)
                    have q188 : x10_1 < (l0_1.length : Int) := of_decide_eq_true (by first | (with_reducible assumption) | assumption)
                    obtain ⟨ad188, e188, hx188_0, hx188_1, hx188_2, hx188_3⟩ := at_T36 HR0_1.out x10_1 p188 q188
                    (try rw [← Nbq10.out] at hx188_3)
                    cases e188
                    replace hx188_0 := (HB.out.cell (World.block_lt_of_cell? w _ hx188_0)).trans hx188_0
                    replace hx188_1 := (HB.out.cell (World.block_lt_of_cell? w _ hx188_1)).trans hx188_1
                    replace hx188_2 := (HB.out.cell (World.block_lt_of_cell? w _ hx188_2)).trans hx188_2
                    replace hx188_3 := (HB.out.cell (World.block_lt_of_cell? w _ hx188_3)).trans hx188_3
                    replace p188 := eq_true p188
                    replace q188 := eq_true q188
                    try go_wp2_with (first | ((with_reducible refine gate_dst (N := 5) rfl ?_); refine box_event ?hg (N := 5) ?hd (cs := #[.string (⟨#[]⟩ : ByteArray), .int .i64 0, .int .i64 0, .bool false]) (t := 36) ?hr ?_; (case hd => rfl); (case hg => rfl); (case hr => first | (go_simp; done) | (go_simp; rfl)); intro gb189 hg w23 hbox hb; have n0_ := Aside0.mk (Kd.R_below (by (with_reducible repeat (first | apply Kd.R_alloc | apply Kd.R_drewN | apply Kd.R_drew)); exact HO_3.out) hb); have n1_ := Aside0.mk (blk_below (g := gb187) (o := .cells #[.string a0_0, .slice (some ad188) l0_1.length c0_1] 24 (0, 0)) (by (with_reducible repeat (first | refine blk_drewN ?_ _ | refine blk_drew ?_ | refine blk_alloc ?_ _)); exact BK187.out) hb); have n2_ := Aside0.mk (below_step (by repeat (first | (with_reducible first | exact HB.out | apply below_alloc | apply pw_below_drewN | apply below_drew1 | refine below_set ?_ GE187.out) | exact HB.out)) hb); have n3_ := Aside0.mk (hbox); have n4_ := Aside0.mk ((by rw [hg]; exact (below_size (by repeat (first | (with_reducible first | exact HB.out | apply below_alloc | apply pw_below_drewN | apply below_drew1 | refine below_set ?_ GE187.out) | exact HB.out))) : w.heap.size ≤ gb189)); have n5_ := Aside0.mk ((by rw [hg]; exact (below_size (by repeat (first | (with_reducible first | exact HB.out | apply below_alloc | apply pw_below_drewN | apply below_drew1 | refine below_set ?_ GE187.out) | exact HB.out))) : w.heap.size ≤ gb189)); have n6_ := Aside0.mk ((by rw [hg]; exact Nat.ne_of_lt (blk_lt (g := gb187) (o := .cells #[.string a0_0, .slice (some ad188) l0_1.length c0_1] 24 (0, 0)) (by (with_reducible repeat (first | refine blk_drewN ?_ _ | refine blk_drew ?_ | refine blk_alloc ?_ _)); exact BK187.out)) : gb187 ≠ gb189)); have n7_ := Aside0.mk ((by rw [hg]; exact Nat.ne_of_gt (blk_lt (g := gb187) (o := .cells #[.string a0_0, .slice (some ad188) l0_1.length c0_1] 24 (0, 0)) (by (with_reducible repeat (first | refine blk_drewN ?_ _ | refine blk_drew ?_ | refine blk_alloc ?_ _)); exact BK187.out)) : gb189 ≠ gb187)); clear HO_3; clear BK187; clear HB; have HO_3 := n0_; have BK187 := n1_; have HB := n2_; have BK189 := n3_; have GW189 := n4_; have GE189 := n5_; have NB187_189 := n6_; have NB189_187 := n7_; clear n0_ n1_ n2_ n3_ n4_ n5_ n6_ n7_; clear hb hbox hg; have hnb24 := NB189_187.out; have hnc24 := NB187_189.out; have hcz25_0 : w23.cell? ⟨gb189, 0, none⟩ = some (.string (⟨#[]⟩ : ByteArray)) := (blk_cell BK189.out 0).trans rfl; have hcz25_1 : w23.cell? ⟨gb189, 1, none⟩ = some (.int .i64 0) := (blk_cell BK189.out 1).trans rfl; have hcz25_2 : w23.cell? ⟨gb189, 2, none⟩ = some (.int .i64 0) := (blk_cell BK189.out 2).trans rfl; have hcz25_3 : w23.cell? ⟨gb189, 3, none⟩ = some (.bool false) := (blk_cell BK189.out 3).trans rfl; have hfz25_0 := blk_frozen BK189.out 0; have hfz25_1 := blk_frozen BK189.out 1; have hfz25_2 := blk_frozen BK189.out 2; have hfz25_3 := blk_frozen BK189.out 3))
                    have n0_ : Aside0 (Kd.R Kd.string 9 ((((w23.setCell ⟨gb189, 0, none⟩ (.string ((rd_T36 l0_1 x10_1).f0))).setCell ⟨gb189, 1, none⟩ (.int .i64 ((rd_T36 l0_1 x10_1).f1.f0))).setCell ⟨gb189, 2, none⟩ (.int .i64 ((rd_T36 l0_1 x10_1).f1.f1))).setCell ⟨gb189, 3, none⟩ (.bool false)) w.heap.size (fun _ => True) u3 x3_1) := ⟨by (with_reducible repeat (first | apply Kd.R_alloc | apply Kd.R_drewN | apply Kd.R_drew)); exact Kd.R_mono (Kd.R_far (p := ⟨gb189, 3, none⟩) (Kd.R_far (p := ⟨gb189, 2, none⟩) (Kd.R_far (p := ⟨gb189, 1, none⟩) (Kd.R_far (p := ⟨gb189, 0, none⟩) (Kd.R_types HO_3.out BK189.out (by decide)) (fun _ hk => hk.2) (.string ((rd_T36 l0_1 x10_1).f0))) (fun _ hk => hk.2) (.int .i64 ((rd_T36 l0_1 x10_1).f1.f0))) (fun _ hk => hk.2) (.int .i64 ((rd_T36 l0_1 x10_1).f1.f1))) (fun _ hk => hk.2) (.bool false)) (fun _ hk => trivial)⟩
                    have n1_ : Aside0 (((((w23.setCell ⟨gb189, 0, none⟩ (.string ((rd_T36 l0_1 x10_1).f0))).setCell ⟨gb189, 1, none⟩ (.int .i64 ((rd_T36 l0_1 x10_1).f1.f0))).setCell ⟨gb189, 2, none⟩ (.int .i64 ((rd_T36 l0_1 x10_1).f1.f1))).setCell ⟨gb189, 3, none⟩ (.bool false)).heap[gb187]? = some (.cells #[.string a0_0, .slice (some ad188) l0_1.length c0_1] 24 (0, 0))) := ⟨by (with_reducible repeat (first | refine blk_drewN ?_ _ | refine blk_drew ?_ | refine blk_alloc ?_ _)); refine blk_far ?_ NB187_189.out _; (with_reducible repeat (first | refine blk_drewN ?_ _ | refine blk_drew ?_ | refine blk_alloc ?_ _)); refine blk_far ?_ NB187_189.out _; (with_reducible repeat (first | refine blk_drewN ?_ _ | refine blk_drew ?_ | refine blk_alloc ?_ _)); refine blk_far ?_ NB187_189.out _; (with_reducible repeat (first | refine blk_drewN ?_ _ | refine blk_drew ?_ | refine blk_alloc ?_ _)); refine blk_far ?_ NB187_189.out _; (with_reducible repeat (first | refine blk_drewN ?_ _ | refine blk_drew ?_ | refine blk_alloc ?_ _)); exact BK187.out⟩
                    have n2_ : Aside0 (((((w23.setCell ⟨gb189, 0, none⟩ (.string ((rd_T36 l0_1 x10_1).f0))).setCell ⟨gb189, 1, none⟩ (.int .i64 ((rd_T36 l0_1 x10_1).f1.f0))).setCell ⟨gb189, 2, none⟩ (.int .i64 ((rd_T36 l0_1 x10_1).f1.f1))).setCell ⟨gb189, 3, none⟩ (.bool false)).heap[gb189]? = some (.cells #[.string ((rd_T36 l0_1 x10_1).f0), .int .i64 ((rd_T36 l0_1 x10_1).f1.f0), .int .i64 ((rd_T36 l0_1 x10_1).f1.f1), .bool false] 36 (0, 0))) := ⟨by (with_reducible repeat (first | refine blk_drewN ?_ _ | refine blk_drew ?_ | refine blk_alloc ?_ _)); refine blk_put (cs := #[.string ((rd_T36 l0_1 x10_1).f0), .int .i64 ((rd_T36 l0_1 x10_1).f1.f0), .int .i64 ((rd_T36 l0_1 x10_1).f1.f1), .bool false]) ?_ 3 _ rfl; (with_reducible repeat (first | refine blk_drewN ?_ _ | refine blk_drew ?_ | refine blk_alloc ?_ _)); refine blk_put (cs := #[.string ((rd_T36 l0_1 x10_1).f0), .int .i64 ((rd_T36 l0_1 x10_1).f1.f0), .int .i64 0, .bool false]) ?_ 2 _ rfl; (with_reducible repeat (first | refine blk_drewN ?_ _ | refine blk_drew ?_ | refine blk_alloc ?_ _)); refine blk_put (cs := #[.string ((rd_T36 l0_1 x10_1).f0), .int .i64 0, .int .i64 0, .bool false]) ?_ 1 _ rfl; (with_reducible repeat (first | refine blk_drewN ?_ _ | refine blk_drew ?_ | refine blk_alloc ?_ _)); refine blk_put (cs := #[.string (⟨#[]⟩ : ByteArray), .int .i64 0, .int .i64 0, .bool false]) ?_ 0 _ rfl; (with_reducible repeat (first | refine blk_drewN ?_ _ | refine blk_drew ?_ | refine blk_alloc ?_ _)); exact BK189.out⟩
                    have n3_ : Aside0 (Below w.heap.size w ((((w23.setCell ⟨gb189, 0, none⟩ (.string ((rd_T36 l0_1 x10_1).f0))).setCell ⟨gb189, 1, none⟩ (.int .i64 ((rd_T36 l0_1 x10_1).f1.f0))).setCell ⟨gb189, 2, none⟩ (.int .i64 ((rd_T36 l0_1 x10_1).f1.f1))).setCell ⟨gb189, 3, none⟩ (.bool false))) := ⟨by repeat (first | (with_reducible first | exact HB.out | apply below_alloc | apply pw_below_drewN | apply below_drew1 | refine below_set ?_ GE187.out | refine below_set ?_ GE189.out) | exact HB.out)⟩
                    (try clear HO_3)
                    (try clear BK187)
                    (try clear BK189)
                    (try clear HB)
                    generalize ((((w23.setCell ⟨gb189, 0, none⟩ (.string ((rd_T36 l0_1 x10_1).f0))).setCell ⟨gb189, 1, none⟩ (.int .i64 ((rd_T36 l0_1 x10_1).f1.f0))).setCell ⟨gb189, 2, none⟩ (.int .i64 ((rd_T36 l0_1 x10_1).f1.f1))).setCell ⟨gb189, 3, none⟩ (.bool false)) = w26 at n0_ n1_ n2_ n3_ ⊢
                    have HO_3 := n0_
                    have BK187 := n1_
                    have BK189 := n2_
                    have HB := n3_
                    clear n0_ n1_ n2_ n3_
                    have n0_ := Aside0.mk (Kd.R_drew HO_3.out)
                    have n1_ := Aside0.mk (blk_drew BK187.out)
                    have n2_ := Aside0.mk (blk_drew BK189.out)
                    have n3_ := Aside0.mk (below_drew1 HB.out)
                    clear HO_3
                    clear BK187
                    clear BK189
                    clear HB
                    have HO_3 := n0_
                    have BK187 := n1_
                    have BK189 := n2_
                    have HB := n3_
                    clear n0_ n1_ n2_ n3_
                    refine start_ (n := 8) (S := fun w' => w'.cell? ⟨gb189, 0, none⟩ = some (.string ((rd_T36 l0_1 x10_1).f0)) ∧ w'.cell? ⟨gb189, 1, none⟩ = some (.int .i64 ((rd_T36 l0_1 x10_1).f1.f0)) ∧ w'.cell? ⟨gb189, 2, none⟩ = some (.int .i64 ((rd_T36 l0_1 x10_1).f1.f1)) ∧ w'.cell? ⟨gb189, 3, none⟩ = some (.bool false)) (ds := []) #[false, false, false, false, false, false, false, false] (by kernel_rfl) rfl rfl ⟨(blk_cell BK189.out 0).trans rfl, (blk_cell BK189.out 1).trans rfl, (blk_cell BK189.out 2).trans rfl, (blk_cell BK189.out 3).trans rfl⟩ (fun hHeld => ?_); refine with_tabW schema_Show.tab5 schema_Show.bits5 (fun HT_ HW_ => ?_)
                    generalize w26.drew = w27 at HO_3 BK187 BK189 HB hHeld ⊢
                    refine pure_ (i := 0) (N := some 14) (v := ?_) (a' := ?_) #[true, false, false, false, false, false, false, false] rfl rfl (any_of HT_.out (by kernel_rfl)) (fun _ _ _ h => h) (Or.inl ⟨by rfl, ?_⟩) ?_ ?_
                    rotate_left
                    · intro w'
                      go_simp
                      with_reducible rfl
                    rotate_left
                    · simp only [Act.put, List.setIfInBounds_toArray, List.set_cons_zero, List.set_cons_succ, i64_w, i32_w]
                      rfl
                    refine pure_ (i := 3) (N := some 17) (v := ?_) (a' := ?_) #[true, false, false, true, false, false, false, false] rfl rfl (any_of HT_.out (by kernel_rfl)) (fun _ _ _ h => h) (Or.inl ⟨by rfl, ?_⟩) ?_ ?_
                    rotate_left
                    · intro w'
                      go_simp
                      with_reducible rfl
                    rotate_left
                    · simp only [Act.put, List.setIfInBounds_toArray, List.set_cons_zero, List.set_cons_succ, i64_w, i32_w]
                      rfl
                    refine take_ (i := 1) (N := some 15) (v := ?_) (a' := ?_) #[true, true, false, true, false, false, false, false] rfl rfl (take_ofW HT_.out HW_.out (by kernel_rfl)) (fun _ _ _ h => h) (Or.inl ⟨by rfl, ?_⟩) hHeld ?_ ?_
                    rotate_left
                    · rintro w' ⟨s0, s1, s2, s3⟩
                      go_simp
                      with_reducible rfl
                    rotate_left
                    · simp only [Act.put, List.setIfInBounds_toArray, List.set_cons_zero, List.set_cons_succ, i64_w, i32_w]
                      rfl
                    refine pure_ (i := 2) (N := some 16) (v := ?_) (a' := ?_) #[true, true, true, true, false, false, false, false] rfl rfl (any_of HT_.out (by kernel_rfl)) (fun _ _ _ h => h) (Or.inl ⟨by rfl, ?_⟩) ?_ ?_
                    rotate_left
                    · intro w'
                      go_simp
                      with_reducible rfl
                    rotate_left
                    · simp only [Act.put, List.setIfInBounds_toArray, List.set_cons_zero, List.set_cons_succ, i64_w, i32_w]
                      rfl
                    refine take_ (i := 4) (N := some 18) (v := ?_) (a' := ?_) #[true, true, true, true, true, false, false, false] rfl rfl (take_ofW HT_.out HW_.out (by kernel_rfl)) (fun _ _ _ h => h) (Or.inl ⟨by rfl, ?_⟩) hHeld ?_ ?_
                    rotate_left
                    · rintro w' ⟨s0, s1, s2, s3⟩
                      go_simp
                      with_reducible rfl
                    rotate_left
                    · simp only [Act.put, List.setIfInBounds_toArray, List.set_cons_zero, List.set_cons_succ, i64_w, i32_w]
                      rfl
                    refine one_ (i := 5) (N := some 19) #[true, true, true, true, true, true, false, false] rfl rfl (one_of HT_.out (by kernel_rfl)) (by decide) (fun K hK => ?_)
                    refine goes_ Tryz.func14 (by kernel_rfl) rfl #[.agg #[.int .i64 ((rd_T36 l0_1 x10_1).f1.f0), .int .i64 ((rd_T36 l0_1 x10_1).f1.f1)]] (by rfl) rfl rfl (by (try simp only [List.map_toArray, List.map_cons, List.map_nil]); first | done | rfl | (simp only [List.length_drop, List.length_take]; rfl)) ?_
                    with_reducible refine (schema_TypeName.calls ((rd_T36 l0_1 x10_1).f1.f0) ((rd_T36 l0_1 x10_1).f1.f1) t190 _ A8.out (Gl.of HG.out (by repeat (first | exact HB.out | apply below_alloc | apply pw_below_drewN | apply below_drew1 | refine below_set ?_ GE187.out | refine below_set ?_ GE189.out)))).mono ?_
                    rintro e w28 ⟨rfl, hb⟩
                    refine ⟨_, rfl, ?_⟩
                    have n0_ := Aside0.mk (Kd.R_below (by (with_reducible repeat (first | apply Kd.R_alloc | apply Kd.R_drewN | apply Kd.R_drew)); exact HO_3.out) hb)
                    have n1_ := Aside0.mk (blk_below (g := gb187) (o := .cells #[.string a0_0, .slice (some ad188) l0_1.length c0_1] 24 (0, 0)) (by (with_reducible repeat (first | refine blk_drewN ?_ _ | refine blk_drew ?_ | refine blk_alloc ?_ _)); exact BK187.out) hb)
                    have n2_ := Aside0.mk (blk_below (g := gb189) (o := .cells #[.string ((rd_T36 l0_1 x10_1).f0), .int .i64 ((rd_T36 l0_1 x10_1).f1.f0), .int .i64 ((rd_T36 l0_1 x10_1).f1.f1), .bool false] 36 (0, 0)) (by (with_reducible repeat (first | refine blk_drewN ?_ _ | refine blk_drew ?_ | refine blk_alloc ?_ _)); exact BK189.out) hb)
                    have n3_ := Aside0.mk (below_step (by repeat (first | (with_reducible first | exact HB.out | apply below_alloc | apply pw_below_drewN | apply below_drew1 | refine below_set ?_ GE187.out | refine below_set ?_ GE189.out) | exact HB.out)) hb)
                    clear HO_3
                    clear BK187
                    clear BK189
                    clear HB
                    have HO_3 := n0_
                    have BK187 := n1_
                    have BK189 := n2_
                    have HB := n3_
                    clear n0_ n1_ n2_ n3_
                    (try clear hb)
                    (try clear hb2)
                    (try clear hk)
                    (try clear hi)
                    refine hK.out _ _ ⟨(blk_cell BK189.out 0).trans rfl, (blk_cell BK189.out 1).trans rfl, (blk_cell BK189.out 2).trans rfl, (blk_cell BK189.out 3).trans rfl⟩ (fun hHeld => ?_)
                    clear hK K
                    refine norm_ (a' := ?_) ?_ ?_
                    rotate_left
                    · show Act.put _ (some 19) _ = _
                      simp only [Act.put, List.setIfInBounds_toArray, List.set_cons_zero, List.set_cons_succ, i64_w, i32_w]
                      rfl
                    refine pure_ (i := 6) (N := some 20) (v := ?_) (a' := ?_) #[true, true, true, true, true, true, true, false] rfl rfl (any_of HT_.out (by kernel_rfl)) (fun _ _ _ h => h) (Or.inl ⟨by rfl, ?_⟩) ?_ ?_
                    rotate_left
                    · intro w'
                      go_simp
                      with_reducible rfl
                    rotate_left
                    · simp only [Act.put, List.setIfInBounds_toArray, List.set_cons_zero, List.set_cons_succ, i64_w, i32_w]
                      rfl
                    refine pure_ (i := 7) (N := some 6) (v := ?_) (a' := ?_) #[true, true, true, true, true, true, true, true] rfl rfl (any_of HT_.out (by kernel_rfl)) (fun _ _ _ h => h) (Or.inl ⟨by rfl, ?_⟩) ?_ ?_
                    rotate_left
                    · intro w'
                      go_simp
                      with_reducible rfl
                    rotate_left
                    · simp only [Act.put, List.setIfInBounds_toArray, List.set_cons_zero, List.set_cons_succ, i64_w, i32_w]
                      rfl
                    refine done_ (done_of HT_.out (by kernel_rfl)) ?_
                    have hcz29_0 : w28.cell? ⟨gb189, 0, none⟩ = some (.string ((rd_T36 l0_1 x10_1).f0)) := (blk_cell BK189.out 0).trans rfl
                    have hcz29_1 : w28.cell? ⟨gb189, 1, none⟩ = some (.int .i64 ((rd_T36 l0_1 x10_1).f1.f0)) := (blk_cell BK189.out 1).trans rfl
                    have hcz29_2 : w28.cell? ⟨gb189, 2, none⟩ = some (.int .i64 ((rd_T36 l0_1 x10_1).f1.f1)) := (blk_cell BK189.out 2).trans rfl
                    have hcz29_3 : w28.cell? ⟨gb189, 3, none⟩ = some (.bool false) := (blk_cell BK189.out 3).trans rfl
                    have hfz29_0 := blk_frozen BK189.out 0
                    have hfz29_1 := blk_frozen BK189.out 1
                    have hfz29_2 := blk_frozen BK189.out 2
                    have hfz29_3 := blk_frozen BK189.out 3
                    try go_wp2_with (first | ((with_reducible refine gate_builtin (b := .append) (xs := #[.tmp 25, .tmp 27]) rfl ?_); at_builtin; refine Kd.R_append Kd.string (w0 := w) w.heap.size rfl (.tmp 25) (.tmp 27) 75 9 (.string ⟨#[]⟩) 16 rfl Tryz.underlying75 info9 rfl (by decide) (by omega) u3 x3_1 ((((rd_T36 l0_1 x10_1).f0) ++ (⟨#[32]⟩ : ByteArray)) ++ t190) [.string ((((rd_T36 l0_1 x10_1).f0) ++ (⟨#[32]⟩ : ByteArray)) ++ t190)] (fun _ => True) (fun _ => False) rfl rfl ?aP (fun _ hk => hk.elim) ?aF ?aO ?aB ?aS ?aL ?_; (case aP => exact rfl); (case aB => exact (by repeat (first | (with_reducible first | exact HB.out | apply below_alloc | apply pw_below_drewN | apply below_drew1 | refine below_set ?_ GE187.out | refine below_set ?_ GE189.out) | exact HB.out))); (case aF => exact (fun _ _ => trivial)); (case aO => exact (by (with_reducible repeat (first | apply Kd.R_alloc | apply Kd.R_drewN | apply Kd.R_drew)); exact HO_3.out)); (case aS => exact (below_size (by repeat (first | (with_reducible first | exact HB.out | apply below_alloc | apply pw_below_drewN | apply below_drew1 | refine below_set ?_ GE187.out | refine below_set ?_ GE189.out) | exact HB.out)))); (case aL => have := LMc22.out; omega); intro v195 w30 ho hb hg hat; rw [← Ny194.out] at ho; have n0_ := Aside0.mk (blk_grown (g := gb187) (o := .cells #[.string a0_0, .slice (some ad188) l0_1.length c0_1] 24 (0, 0)) (by (with_reducible repeat (first | refine blk_drewN ?_ _ | refine blk_drew ?_ | refine blk_alloc ?_ _)); exact BK187.out) hg (Kd.R_ne HO_3.out BK187.out (by decide))); have n1_ := Aside0.mk (blk_grown (g := gb189) (o := .cells #[.string ((rd_T36 l0_1 x10_1).f0), .int .i64 ((rd_T36 l0_1 x10_1).f1.f0), .int .i64 ((rd_T36 l0_1 x10_1).f1.f1), .bool false] 36 (0, 0)) (by (with_reducible repeat (first | refine blk_drewN ?_ _ | refine blk_drew ?_ | refine blk_alloc ?_ _)); exact BK189.out) hg (Kd.R_ne HO_3.out BK189.out (by decide))); have n2_ := Aside0.mk (hb); have n3_ := Aside0.mk (ho); clear BK187; clear BK189; clear HB; clear HO_3; have BK187 := n0_; have BK189 := n1_; have HB := n2_; have HO196 := n3_; clear n0_ n1_ n2_ n3_; clear ho hb hg hat))
                    go_roundg k1
                    case measure => have := HK1.out; omega
                    case rel => exact ⟨(y194), (wrap64 (x10_1 + 1)), (by first | rfl | (simp; done) | (simp [*]; done)), H', ⟨by have := HK1.out; omega⟩, ⟨by (with_reducible repeat (first | apply Kd.R_alloc | apply Kd.R_drewN | apply Kd.R_drew)); exact HO196.out⟩, ⟨by (with_reducible repeat (first | refine blk_drewN ?_ _ | refine blk_drew ?_ | refine blk_alloc ?_ _)); exact BK187.out⟩, ⟨by repeat (first | (with_reducible first | exact HB.out | apply below_alloc | apply pw_below_drewN | apply below_drew1 | refine below_set ?_ GE187.out | refine below_set ?_ GE189.out) | exact HB.out)⟩⟩
                  · rw [if_neg c22] at H
                    exact absurd H (by simp)
              · rw [if_neg c9] at H
                exact absurd H (by simp)
            · rw [if_neg c7] at H
              exact absurd H (by simp)
          · rw [if_neg c6] at H
            exact absurd H (by simp)
        · rw [if_neg c5] at H
          exact absurd H (by simp)
      · rw [if_neg c4] at H
        have c4b0 : decide (x10_1 < (l0_1.length : Int)) = false := decide_eq_false c4
        clear c4
        by_cases c31 : 13 + a0_0.size ≤ 9223372036854775807
        · rw [if_pos c31] at H
          have c31b0 := eq_true c31
          (try (have c31n := c31; simp [size_lit] at c31n))
          (try (have c31m := eq_false (Nat.not_lt.2 c31); simp only [ByteArray.size_append, size_lit, List.length_cons, List.length_nil, Nat.reduceAdd, Nat.zero_add] at c31m))
          have c31b1 : decide (13 + a0_0.size ≤ 9223372036854775807) = true := decide_eq_true c31
          try have c31b2 : (9223372036854775807 < 13 + a0_0.size) = False := eq_false (Nat.not_lt.2 c31)
          by_cases c32 : ((⟨#[67, 82, 69, 65, 84, 69, 32, 84, 65, 66, 76, 69, 32]⟩ : ByteArray) ++ a0_0).size + 2 ≤ 9223372036854775807
          · rw [if_pos c32] at H
            have c32b0 := eq_true c32
            (try (have c32n := c32; simp [size_lit] at c32n))
            (try (have c32m := eq_false (Nat.not_lt.2 c32); simp only [ByteArray.size_append, size_lit, List.length_cons, List.length_nil, Nat.reduceAdd, Nat.zero_add] at c32m))
            have c32b1 : decide (((⟨#[67, 82, 69, 65, 84, 69, 32, 84, 65, 66, 76, 69, 32]⟩ : ByteArray) ++ a0_0).size + 2 ≤ 9223372036854775807) = true := decide_eq_true c32
            try have c32b2 : (9223372036854775807 < ((⟨#[67, 82, 69, 65, 84, 69, 32, 84, 65, 66, 76, 69, 32]⟩ : ByteArray) ++ a0_0).size + 2) = False := eq_false (Nat.not_lt.2 c32)
            replace H := Option.bind_eq_some_iff.mp H
            obtain ⟨t197, A330, H⟩ := H
            replace H : (if (((⟨#[67, 82, 69, 65, 84, 69, 32, 84, 65, 66, 76, 69, 32]⟩ : ByteArray) ++ a0_0) ++ (⟨#[32, 40]⟩ : ByteArray)).size + t197.size ≤ 9223372036854775807 then (if ((((⟨#[67, 82, 69, 65, 84, 69, 32, 84, 65, 66, 76, 69, 32]⟩ : ByteArray) ++ a0_0) ++ (⟨#[32, 40]⟩ : ByteArray)) ++ t197).size + 1 ≤ 9223372036854775807 then (some (((((⟨#[67, 82, 69, 65, 84, 69, 32, 84, 65, 66, 76, 69, 32]⟩ : ByteArray) ++ a0_0) ++ (⟨#[32, 40]⟩ : ByteArray)) ++ t197) ++ (⟨#[41]⟩ : ByteArray))) else (none)) else (none)) = some r := H
            have A33 := Aside0.mk A330
            clear A330
            by_cases c34 : (((⟨#[67, 82, 69, 65, 84, 69, 32, 84, 65, 66, 76, 69, 32]⟩ : ByteArray) ++ a0_0) ++ (⟨#[32, 40]⟩ : ByteArray)).size + t197.size ≤ 9223372036854775807
            · rw [if_pos c34] at H
              have c34b0 := eq_true c34
              (try (have c34n := c34; simp [size_lit] at c34n))
              (try (have c34m := eq_false (Nat.not_lt.2 c34); simp only [ByteArray.size_append, size_lit, List.length_cons, List.length_nil, Nat.reduceAdd, Nat.zero_add] at c34m))
              have c34b1 : decide ((((⟨#[67, 82, 69, 65, 84, 69, 32, 84, 65, 66, 76, 69, 32]⟩ : ByteArray) ++ a0_0) ++ (⟨#[32, 40]⟩ : ByteArray)).size + t197.size ≤ 9223372036854775807) = true := decide_eq_true c34
              try have c34b2 : (9223372036854775807 < (((⟨#[67, 82, 69, 65, 84, 69, 32, 84, 65, 66, 76, 69, 32]⟩ : ByteArray) ++ a0_0) ++ (⟨#[32, 40]⟩ : ByteArray)).size + t197.size) = False := eq_false (Nat.not_lt.2 c34)
              by_cases c35 : ((((⟨#[67, 82, 69, 65, 84, 69, 32, 84, 65, 66, 76, 69, 32]⟩ : ByteArray) ++ a0_0) ++ (⟨#[32, 40]⟩ : ByteArray)) ++ t197).size + 1 ≤ 9223372036854775807
              · rw [if_pos c35] at H
                have c35b0 := eq_true c35
                (try (have c35n := c35; simp [size_lit] at c35n))
                (try (have c35m := eq_false (Nat.not_lt.2 c35); simp only [ByteArray.size_append, size_lit, List.length_cons, List.length_nil, Nat.reduceAdd, Nat.zero_add] at c35m))
                have c35b1 : decide (((((⟨#[67, 82, 69, 65, 84, 69, 32, 84, 65, 66, 76, 69, 32]⟩ : ByteArray) ++ a0_0) ++ (⟨#[32, 40]⟩ : ByteArray)) ++ t197).size + 1 ≤ 9223372036854775807) = true := decide_eq_true c35
                try have c35b2 : (9223372036854775807 < ((((⟨#[67, 82, 69, 65, 84, 69, 32, 84, 65, 66, 76, 69, 32]⟩ : ByteArray) ++ a0_0) ++ (⟨#[32, 40]⟩ : ByteArray)) ++ t197).size + 1) = False := eq_false (Nat.not_lt.2 c35)
                obtain rfl := Option.some.inj H
                try go_wp2
                have n0_ := Aside0.mk (Kd.R_drew HO_3.out)
                have n1_ := Aside0.mk (blk_drew BK187.out)
                have n2_ := Aside0.mk (below_drew1 HB.out)
                clear HO_3
                clear BK187
                clear HB
                have HO_3 := n0_
                have BK187 := n1_
                have HB := n2_
                clear n0_ n1_ n2_
                obtain ⟨Ao37, co37, eo37⟩ := Kd.R_slice HO_3.out
                (first | subst eo37 | (injection eo37 with f1_ f2_ f3_; have f4_ := f1_.symm; have f5_ := f3_.symm; clear f1_ f2_ f3_; subst f4_; subst f5_))
                refine start_ (n := 9) (S := fun w' => w'.cell? ⟨gb187, 0, none⟩ = some (.string a0_0) ∧ w'.cell? ⟨gb187, 1, none⟩ = some (.slice A0_1 l0_1.length c0_1)) (ds := []) #[false, false, false, false, false, false, false, false, false] (by kernel_rfl) rfl rfl ⟨(blk_cell BK187.out 0).trans rfl, (blk_cell BK187.out 1).trans rfl⟩ (fun hHeld => ?_); refine with_tabW schema_Show.tab10 schema_Show.bits10 (fun HT_ HW_ => ?_)
                generalize wr.drew = w36 at HO_3 BK187 HB hHeld ⊢
                refine pure_ (i := 0) (N := some 30) (v := ?_) (a' := ?_) #[true, false, false, false, false, false, false, false, false] rfl rfl (any_of HT_.out (by kernel_rfl)) (fun _ _ _ h => h) (Or.inl ⟨by rfl, ?_⟩) ?_ ?_
                rotate_left
                · intro w'
                  go_simp
                  with_reducible rfl
                rotate_left
                · simp only [Act.put, List.setIfInBounds_toArray, List.set_cons_zero, List.set_cons_succ, i64_w, i32_w]
                  rfl
                refine pure_ (i := 4) (N := some 34) (v := ?_) (a' := ?_) #[true, false, false, false, true, false, false, false, false] rfl rfl (any_of HT_.out (by kernel_rfl)) (fun _ _ _ h => h) (Or.inl ⟨by rfl, ?_⟩) ?_ ?_
                rotate_left
                · intro w'
                  go_simp
                  with_reducible rfl
                rotate_left
                · simp only [Act.put, List.setIfInBounds_toArray, List.set_cons_zero, List.set_cons_succ, i64_w, i32_w]
                  rfl
                refine take_ (i := 1) (N := some 31) (v := ?_) (a' := ?_) #[true, true, false, false, true, false, false, false, false] rfl rfl (take_ofW HT_.out HW_.out (by kernel_rfl)) (fun _ _ _ h => h) (Or.inl ⟨by rfl, ?_⟩) hHeld ?_ ?_
                rotate_left
                · rintro w' ⟨s0, s1⟩
                  go_simp
                  with_reducible rfl
                rotate_left
                · simp only [Act.put, List.setIfInBounds_toArray, List.set_cons_zero, List.set_cons_succ, i64_w, i32_w]
                  rfl
                refine pure_ (i := 2) (N := some 32) (v := ?_) (a' := ?_) #[true, true, true, false, true, false, false, false, false] rfl rfl (any_of HT_.out (by kernel_rfl)) (fun _ _ _ h => h) (Or.inl ⟨by rfl, ?_⟩) ?_ ?_
                rotate_left
                · intro w'
                  go_simp
                  with_reducible rfl
                rotate_left
                · simp only [Act.put, List.setIfInBounds_toArray, List.set_cons_zero, List.set_cons_succ, i64_w, i32_w]
                  rfl
                refine pure_ (i := 3) (N := some 33) (v := ?_) (a' := ?_) #[true, true, true, true, true, false, false, false, false] rfl rfl (any_of HT_.out (by kernel_rfl)) (fun _ _ _ h => h) (Or.inl ⟨by rfl, ?_⟩) ?_ ?_
                rotate_left
                · intro w'
                  go_simp
                  with_reducible rfl
                rotate_left
                · simp only [Act.put, List.setIfInBounds_toArray, List.set_cons_zero, List.set_cons_succ, i64_w, i32_w]
                  rfl
                refine one_ (i := 5) (N := some 35) #[true, true, true, true, true, true, false, false, false] rfl rfl (one_of HT_.out (by kernel_rfl)) (by decide) (fun K hK => ?_)
                refine goes_ Tryz.func49 (by kernel_rfl) rfl #[.slice Ao37 x3_1.length co37, .string (⟨#[44, 32]⟩ : ByteArray)] (by rfl) rfl rfl (by (try simp only [List.map_toArray, List.map_cons, List.map_nil]); first | done | rfl | (simp only [List.length_drop, List.length_take]; rfl)) ?_
                with_reducible refine (strings_Join.calls _ _ x3_1 (⟨#[44, 32]⟩ : ByteArray) t197 _ ?side1 ?side2 A33.out).mono ?_
                (case side1 => repeat (first | exact (Kd.R_reads' HO_3.out).2.2 | (with_reducible refine Kd.C_alloc ?_ _) | (with_reducible refine Kd.C_drewN ?_ _) | (with_reducible refine Kd.C_drew ?_)))
                (case side2 => exact (Kd.R_reads' HO_3.out).2.1)
                rintro e w38 ⟨rfl, hb⟩
                refine ⟨_, rfl, ?_⟩
                have n0_ := Aside0.mk (Kd.R_below (by (with_reducible repeat (first | apply Kd.R_alloc | apply Kd.R_drewN | apply Kd.R_drew)); exact HO_3.out) hb)
                have n1_ := Aside0.mk (blk_below (g := gb187) (o := .cells #[.string a0_0, .slice A0_1 l0_1.length c0_1] 24 (0, 0)) (by (with_reducible repeat (first | refine blk_drewN ?_ _ | refine blk_drew ?_ | refine blk_alloc ?_ _)); exact BK187.out) hb)
                have n2_ := Aside0.mk (below_step (by repeat (first | (with_reducible first | exact HB.out | apply below_alloc | apply pw_below_drewN | apply below_drew1 | refine below_set ?_ GE187.out) | exact HB.out)) hb)
                clear HO_3
                clear BK187
                clear HB
                have HO_3 := n0_
                have BK187 := n1_
                have HB := n2_
                clear n0_ n1_ n2_
                (try clear hb)
                (try clear hb2)
                (try clear hk)
                (try clear hi)
                refine hK.out _ _ ⟨(blk_cell BK187.out 0).trans rfl, (blk_cell BK187.out 1).trans rfl⟩ (fun hHeld => ?_)
                clear hK K
                refine norm_ (a' := ?_) ?_ ?_
                rotate_left
                · show Act.put _ (some 35) _ = _
                  simp only [Act.put, List.setIfInBounds_toArray, List.set_cons_zero, List.set_cons_succ, i64_w, i32_w]
                  rfl
                refine pure_ (i := 6) (N := some 36) (v := ?_) (a' := ?_) #[true, true, true, true, true, true, true, false, false] rfl rfl (any_of HT_.out (by kernel_rfl)) (fun _ _ _ h => h) (Or.inl ⟨by rfl, ?_⟩) ?_ ?_
                rotate_left
                · intro w'
                  go_simp
                  with_reducible rfl
                rotate_left
                · simp only [Act.put, List.setIfInBounds_toArray, List.set_cons_zero, List.set_cons_succ, i64_w, i32_w]
                  rfl
                refine pure_ (i := 7) (N := some 37) (v := ?_) (a' := ?_) #[true, true, true, true, true, true, true, true, false] rfl rfl (any_of HT_.out (by kernel_rfl)) (fun _ _ _ h => h) (Or.inl ⟨by rfl, ?_⟩) ?_ ?_
                rotate_left
                · intro w'
                  go_simp
                  with_reducible rfl
                rotate_left
                · simp only [Act.put, List.setIfInBounds_toArray, List.set_cons_zero, List.set_cons_succ, i64_w, i32_w]
                  rfl
                refine pure_ (i := 8) (N := some 2) (v := ?_) (a' := ?_) #[true, true, true, true, true, true, true, true, true] rfl rfl (any_of HT_.out (by kernel_rfl)) (fun _ _ _ h => h) (Or.inl ⟨by rfl, ?_⟩) ?_ ?_
                rotate_left
                · intro w'
                  go_simp
                  with_reducible rfl
                rotate_left
                · simp only [Act.put, List.setIfInBounds_toArray, List.set_cons_zero, List.set_cons_succ, i64_w, i32_w]
                  rfl
                refine done_ (done_of HT_.out (by kernel_rfl)) ?_
                try go_wp2
                go_ret
                exact ⟨by first | rfl | (simp [errW_none, errW_some] <;> rfl) | (simp [*, errW_none, errW_some] <;> rfl), by repeat (first | (with_reducible first | exact HB.out | apply below_alloc | apply pw_below_drewN | apply below_drew1 | refine below_set ?_ GE187.out) | exact HB.out)⟩
              · rw [if_neg c35] at H
                exact absurd H (by simp)
            · rw [if_neg c34] at H
              exact absurd H (by simp)
          · rw [if_neg c32] at H
            exact absurd H (by simp)
        · rw [if_neg c31] at H
          exact absurd H (by simp)

end Go.Proofs.YtmeopdjdjmjngaaGreatDoor.I
