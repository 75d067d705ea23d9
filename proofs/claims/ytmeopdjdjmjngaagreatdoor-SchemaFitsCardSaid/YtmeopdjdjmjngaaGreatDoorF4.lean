/- PRINTED BY A PROGRAM OF THIS SESSION (px.py, over the kit's print): Lean functions with the answers of Go functions of the given program, and proofs that the Go code comes to these answers; each under the conditions that its theorem states. -/
import Derived.Test.YtmeopdjdjmjngaaGreatDoorF0
import Derived.Test.YtmeopdjdjmjngaaGreatDoorF2
import Derived.Test.YtmeopdjdjmjngaaGreatDoorF3
namespace Go.Proofs.YtmeopdjdjmjngaaGreatDoor.F
open Go.RowKit Go.Proofs.YtmeopdjdjmjngaaGreatDoorW.PrintWords Go.Proofs.YtmeopdjdjmjngaaGreatDoorW.PrintLast Go.Proofs.YtmeopdjdjmjngaaGreatDoorW.PrintMore
attribute [local go_sem] max2_int min2_int max_two min_two max_three min_three max_four min_four   -- for this text's walks alone
set_option linter.unusedVariables false
set_option linter.unusedSimpArgs false
theorem zF4_0 {P : Prop} (h : P := by (with_reducible repeat (first | refine blk_drewN ?_ _ | refine blk_drew ?_ | refine blk_alloc ?_ _)); refine blk_put (cs := #[.int .i64 ((rd_T41 l1 x20_1).f0.f0), .int .i64 ((rd_T41 l1 x20_1).f0.f1), .bool ((rd_T41 l1 x20_1).f1), .int .i64 ((rd_T41 l1 x20_1).f2), .string (⟨#[]⟩ : ByteArray)]) ?_ 4 _ rfl; (with_reducible repeat (first | refine blk_drewN ?_ _ | refine blk_drew ?_ | refine blk_alloc ?_ _)); refine blk_put (cs := #[.int .i64 ((rd_T41 l1 x20_1).f0.f0), .int .i64 ((rd_T41 l1 x20_1).f0.f1), .bool ((rd_T41 l1 x20_1).f1), .int .i64 0, .string (⟨#[]⟩ : ByteArray)]) ?_ 3 _ rfl; (with_reducible repeat (first | refine blk_drewN ?_ _ | refine blk_drew ?_ | refine blk_alloc ?_ _)); refine blk_put (cs := #[.int .i64 ((rd_T41 l1 x20_1).f0.f0), .int .i64 ((rd_T41 l1 x20_1).f0.f1), .bool false, .int .i64 0, .string (⟨#[]⟩ : ByteArray)]) ?_ 2 _ rfl; (with_reducible repeat (first | refine blk_drewN ?_ _ | refine blk_drew ?_ | refine blk_alloc ?_ _)); refine blk_put (cs := #[.int .i64 ((rd_T41 l1 x20_1).f0.f0), .int .i64 0, .bool false, .int .i64 0, .string (⟨#[]⟩ : ByteArray)]) ?_ 1 _ rfl; (with_reducible repeat (first | refine blk_drewN ?_ _ | refine blk_drew ?_ | refine blk_alloc ?_ _)); refine blk_put (cs := #[.int .i64 0, .int .i64 0, .bool false, .int .i64 0, .string (⟨#[]⟩ : ByteArray)]) ?_ 0 _ rfl; (with_reducible repeat (first | refine blk_drewN ?_ _ | refine blk_drew ?_ | refine blk_alloc ?_ _)); exact BK165.out) : P := h
theorem zF4_1 {P : Prop} (h : P := by repeat (first | (with_reducible first | exact HB.out | apply below_alloc | apply pw_below_drewN | apply below_drew1 | refine below_set ?_ GE163.out | refine below_set ?_ GE165.out | refine below_set ?_ GE167.out) | exact HB.out)) : P := h
theorem zF4_2 {P : Prop} (h : P := by (with_reducible repeat (first | refine blk_drewN ?_ _ | refine blk_drew ?_ | refine blk_alloc ?_ _)); refine blk_put (cs := #[.int .i64 t177, .int .i64 t178, .bool t179, .int .i64 t180, .string (⟨#[]⟩ : ByteArray)]) ?_ 4 _ rfl; (with_reducible repeat (first | refine blk_drewN ?_ _ | refine blk_drew ?_ | refine blk_alloc ?_ _)); refine blk_put (cs := #[.int .i64 t177, .int .i64 t178, .bool t179, .int .i64 0, .string (⟨#[]⟩ : ByteArray)]) ?_ 3 _ rfl; (with_reducible repeat (first | refine blk_drewN ?_ _ | refine blk_drew ?_ | refine blk_alloc ?_ _)); refine blk_put (cs := #[.int .i64 t177, .int .i64 t178, .bool false, .int .i64 0, .string (⟨#[]⟩ : ByteArray)]) ?_ 2 _ rfl; (with_reducible repeat (first | refine blk_drewN ?_ _ | refine blk_drew ?_ | refine blk_alloc ?_ _)); refine blk_put (cs := #[.int .i64 t177, .int .i64 0, .bool false, .int .i64 0, .string (⟨#[]⟩ : ByteArray)]) ?_ 1 _ rfl; (with_reducible repeat (first | refine blk_drewN ?_ _ | refine blk_drew ?_ | refine blk_alloc ?_ _)); refine blk_put (cs := #[.int .i64 0, .int .i64 0, .bool false, .int .i64 0, .string (⟨#[]⟩ : ByteArray)]) ?_ 0 _ rfl; (with_reducible repeat (first | refine blk_drewN ?_ _ | refine blk_drew ?_ | refine blk_alloc ?_ _)); exact BK183.out) : P := h
theorem zF4_3 {P : Prop} (h : P := by (with_reducible repeat (first | refine blk_drewN ?_ _ | refine blk_drew ?_ | refine blk_alloc ?_ _)); refine blk_far ?_ NB163_165.out _; (with_reducible repeat (first | refine blk_drewN ?_ _ | refine blk_drew ?_ | refine blk_alloc ?_ _)); refine blk_far ?_ NB163_165.out _; (with_reducible repeat (first | refine blk_drewN ?_ _ | refine blk_drew ?_ | refine blk_alloc ?_ _)); refine blk_far ?_ NB163_165.out _; (with_reducible repeat (first | refine blk_drewN ?_ _ | refine blk_drew ?_ | refine blk_alloc ?_ _)); refine blk_far ?_ NB163_165.out _; (with_reducible repeat (first | refine blk_drewN ?_ _ | refine blk_drew ?_ | refine blk_alloc ?_ _)); refine blk_far ?_ NB163_165.out _; (with_reducible repeat (first | refine blk_drewN ?_ _ | refine blk_drew ?_ | refine blk_alloc ?_ _)); exact BK163.out) : P := h
theorem zF4_4 {P : Prop} (h : P := by repeat (first | (with_reducible first | exact HB.out | apply below_alloc | apply pw_below_drewN | apply below_drew1) | exact HB.out)) : P := h
theorem zF4_5 {P : Prop} (h : P := by (with_reducible repeat (first | refine blk_drewN ?_ _ | refine blk_drew ?_ | refine blk_alloc ?_ _)); exact BK163.out) : P := h
theorem zF4_6 {P : Prop} (h : P := by (try simp only [List.map_toArray, List.map_cons, List.map_nil]); first | done | rfl | (simp only [List.length_drop, List.length_take]; rfl)) : P := h
theorem zF4_7 {P : Prop} (h : P := by (with_reducible repeat (first | refine blk_drewN ?_ _ | refine blk_drew ?_ | refine blk_alloc ?_ _)); exact BK165.out) : P := h
theorem zF4_8 {P : Prop} (h : P := by (with_reducible repeat (first | refine blk_drewN ?_ _ | refine blk_drew ?_ | refine blk_alloc ?_ _)); refine blk_far ?_ NB165_183.out _; (with_reducible repeat (first | refine blk_drewN ?_ _ | refine blk_drew ?_ | refine blk_alloc ?_ _)); refine blk_far ?_ NB165_183.out _; (with_reducible repeat (first | refine blk_drewN ?_ _ | refine blk_drew ?_ | refine blk_alloc ?_ _)); refine blk_far ?_ NB165_183.out _; (with_reducible repeat (first | refine blk_drewN ?_ _ | refine blk_drew ?_ | refine blk_alloc ?_ _)); refine blk_far ?_ NB165_183.out _; (with_reducible repeat (first | refine blk_drewN ?_ _ | refine blk_drew ?_ | refine blk_alloc ?_ _)); refine blk_far ?_ NB165_183.out _; (with_reducible repeat (first | refine blk_drewN ?_ _ | refine blk_drew ?_ | refine blk_alloc ?_ _)); exact BK165.out) : P := h
theorem zF4_9 {P : Prop} (h : P := by (with_reducible repeat (first | refine blk_drewN ?_ _ | refine blk_drew ?_ | refine blk_alloc ?_ _)); exact BK167.out) : P := h
theorem zF4_10 {P : Prop} (h : P := by (with_reducible repeat (first | apply Kd.R_alloc | apply Kd.R_drewN | apply Kd.R_drew)); exact HO_6.out) : P := h
theorem zF4_11 {P : Prop} (h : P := by first | rfl | (simp; done) | (simp [*]; done)) : P := h
theorem zF4_12 {P : Prop} (h : P := by repeat (first | (with_reducible first | exact HB.out | apply below_alloc | apply pw_below_drewN | apply below_drew1 | refine below_set ?_ GE163.out | refine below_set ?_ GE165.out) | exact HB.out)) : P := h
theorem zF4_13 {P : Prop} (h : P := by repeat (first | (with_reducible first | exact HB.out | apply below_alloc | apply pw_below_drewN | apply below_drew1 | refine below_set ?_ GE163.out | refine below_set ?_ GE165.out | refine below_set ?_ GE167.out | refine below_set ?_ GE183.out) | exact HB.out)) : P := h
theorem zF4_14 {P : Prop} (h : P := by repeat (first | (with_reducible first | exact HB.out | apply below_alloc | apply pw_below_drewN | apply below_drew1 | refine below_set ?_ GE163.out) | exact HB.out)) : P := h
theorem zF4_15 {P : Prop} (h : P := by repeat (first | (with_reducible first | exact HB.out | apply below_alloc | apply pw_below_drewN | apply below_drew1 | refine below_set ?_ GE187.out) | exact HB.out)) : P := h
theorem zF4_16 {P : Prop} (h : P := by repeat (first | (with_reducible first | exact HB.out | apply below_alloc | apply pw_below_drewN | apply below_drew1 | refine below_set ?_ GE189.out) | exact HB.out)) : P := h
theorem zF4_17 {P : Prop} (h : P := by first | (rw [add_block]; exact hn166_0) | (show (Addr.add _ _).block ≠ _; rw [add_block]; exact hn166_0) | exact hn166_0) : P := h
theorem zF4_18 {P : Prop} (h : P := by first | (rw [add_block]; exact hn166_1) | (show (Addr.add _ _).block ≠ _; rw [add_block]; exact hn166_1) | exact hn166_1) : P := h
theorem zF4_19 {P : Prop} (h : P := by first | (rw [add_block]; exact hn166_2) | (show (Addr.add _ _).block ≠ _; rw [add_block]; exact hn166_2) | exact hn166_2) : P := h
theorem zF4_20 {P : Prop} (h : P := by first | (rw [add_block]; exact hn166_3) | (show (Addr.add _ _).block ≠ _; rw [add_block]; exact hn166_3) | exact hn166_3) : P := h
theorem zF4_21 {P : Prop} (h : P := by first | (rw [add_block]; exact hn166_4) | (show (Addr.add _ _).block ≠ _; rw [add_block]; exact hn166_4) | exact hn166_4) : P := h
theorem zF4_22 {P : Prop} (h : P := by (with_reducible repeat (first | refine blk_drewN ?_ _ | refine blk_drew ?_ | refine blk_alloc ?_ _)); exact BK187.out) : P := h
theorem zF4_23 {P : Prop} (h : P := by (with_reducible repeat (first | refine blk_drewN ?_ _ | refine blk_drew ?_ | refine blk_alloc ?_ _)); exact BK189.out) : P := h
theorem zF4_24 {P : Prop} (h : P := by kernel_rfl) : P := h
theorem zF4_25 {P : Prop} (h : P := by first | (with_reducible assumption) | assumption) : P := h
theorem zF4_26 {P : Prop} (h : P := by rw [hg]; exact Nat.ne_of_lt (blk_lt (g := gb165) (o := .cells #[.int .i64 ((rd_T41 l1 x20_1).f0.f0), .int .i64 ((rd_T41 l1 x20_1).f0.f1), .bool ((rd_T41 l1 x20_1).f1), .int .i64 ((rd_T41 l1 x20_1).f2), .string ((rd_T41 l1 x20_1).f3)] 41 (0, 0)) zF4_7)) : P := h
theorem zF4_27 {P : Prop} (h : P := by rw [hg]; exact Nat.ne_of_gt (blk_lt (g := gb165) (o := .cells #[.int .i64 ((rd_T41 l1 x20_1).f0.f0), .int .i64 ((rd_T41 l1 x20_1).f0.f1), .bool ((rd_T41 l1 x20_1).f1), .int .i64 ((rd_T41 l1 x20_1).f2), .string ((rd_T41 l1 x20_1).f3)] 41 (0, 0)) zF4_7)) : P := h
theorem zF4_28 {P : Prop} (h : P := by rw [hg]; exact Nat.ne_of_lt (blk_lt (g := gb167) (o := .cells #[.string ((rd_T36 l0_1 x20_1).f0), .int .i64 ((rd_T36 l0_1 x20_1).f1.f0), .int .i64 ((rd_T36 l0_1 x20_1).f1.f1), .bool ((rd_T36 l0_1 x20_1).f2)] 36 (0, 0)) zF4_9)) : P := h
theorem zF4_29 {P : Prop} (h : P := by rw [hg]; exact Nat.ne_of_gt (blk_lt (g := gb167) (o := .cells #[.string ((rd_T36 l0_1 x20_1).f0), .int .i64 ((rd_T36 l0_1 x20_1).f1.f0), .int .i64 ((rd_T36 l0_1 x20_1).f1.f1), .bool ((rd_T36 l0_1 x20_1).f2)] 36 (0, 0)) zF4_9)) : P := h
theorem zF4_30 {P : Prop} (h : P := by rw [hg]; exact (below_size zF4_4)) : P := h
theorem zF4_31 {P : Prop} (h : P := by rw [hg]; exact Nat.ne_of_lt (blk_lt (g := gb163) (o := .cells #[.string a0_0, .slice (some ad166) l0_1.length c0_1] 24 (0, 0)) zF4_5)) : P := h
theorem zF4_32 {P : Prop} (h : P := by rw [hg]; exact Nat.ne_of_gt (blk_lt (g := gb163) (o := .cells #[.string a0_0, .slice (some ad166) l0_1.length c0_1] 24 (0, 0)) zF4_5)) : P := h
theorem zF4_33 {P : Prop} (h : P := by rw [hg]; exact (below_size zF4_1)) : P := h

/-! ### schema_Fit: function 10 -/
mutual
def schema_Fit.l0 : Nat → List (S41) → List (S41) → Int → Int → ByteArray → List (S36) → Option ((List (S41)) × Int)
 | 0, _, _, _, _, _, _ => none
 | k + 1, x6, x18, x19, x20, x164000, x164001 => if x20 < x19 then (if 0 ≤ x20 then (if x20 < (x18.length : Int) then (if x20 < (x164001.length : Int) then (if (rd_T41 x18 x20).f1 = true then (schema_Fit.j1 k x6 x18 x19 x20 ((rd_T36 x164001 x20).f2) x164000 x164001 ((rd_T41 x18 x20).f0.f0) ((rd_T41 x18 x20).f0.f1) ((rd_T41 x18 x20).f1) ((rd_T41 x18 x20).f2) ((rd_T41 x18 x20).f3) ((rd_T36 x164001 x20).f0) ((rd_T36 x164001 x20).f1.f0) ((rd_T36 x164001 x20).f1.f1) ((rd_T36 x164001 x20).f2)) else (schema_Fit.j1 k x6 x18 x19 x20 false x164000 x164001 ((rd_T41 x18 x20).f0.f0) ((rd_T41 x18 x20).f0.f1) ((rd_T41 x18 x20).f1) ((rd_T41 x18 x20).f2) ((rd_T41 x18 x20).f3) ((rd_T36 x164001 x20).f0) ((rd_T36 x164001 x20).f1.f0) ((rd_T36 x164001 x20).f1.f1) ((rd_T36 x164001 x20).f2))) else (none)) else (none)) else (none)) else (some (x6, 0))
def schema_Fit.j1 : Nat → List (S41) → List (S41) → Int → Int → Bool → ByteArray → List (S36) → Int → Int → Bool → Int → ByteArray → ByteArray → Int → Int → Bool → Option ((List (S41)) × Int)
 | 0, _, _, _, _, _, _, _, _, _, _, _, _, _, _, _, _ => none
 | k + 1, x6, x18, x19, x20, x30, x164000, x164001, x166000, x166001, x166002, x166003, x166004, x168000, x168001, x168002, x168003 => if x30 = true then (some (([] : List (S41)), 112)) else (if x166002 = true then ((value_None.f x168001 x168002).bind fun bt168 => (if x6.length < 2932031007402 then (schema_Fit.l0 k (x6 ++ [(⟨(⟨bt168.1, bt168.2.1⟩ : S34), bt168.2.2.1, bt168.2.2.2.1, bt168.2.2.2.2⟩ : S41)]) x18 x19 (wrap64 (x20 + 1)) x164000 x164001) else (none))) else ((value_Alike.f x166000 x166001 x168001 x168002).bind fun t176 => (if t176 = true then ((value_Cast.f k x166000 x166001 x166002 x166003 x166004 x168001 x168002).bind fun bt177 => (if bt177.2.2.2.2.2 = 0 then (if x6.length < 2932031007402 then (schema_Fit.l0 k (x6 ++ [(⟨(⟨bt177.1, bt177.2.1⟩ : S34), bt177.2.2.1, bt177.2.2.2.1, bt177.2.2.2.2.1⟩ : S41)]) x18 x19 (wrap64 (x20 + 1)) x164000 x164001) else (none)) else (some (([] : List (S41)), bt177.2.2.2.2.2)))) else (some (([] : List (S41)), 21)))))
end
def schema_Fit.f (k : Nat) (a0_0 : ByteArray) (l0_1 : List (S36)) (l1 : List (S41)) : Option ((List (S41)) × Int) := if (l1.length : Int) = (l0_1.length : Int) then (schema_Fit.l0 k ([] : List (S41)) l1 (l1.length : Int) 0 a0_0 l0_1) else (some (([] : List (S41)), 113))
theorem schema_Fit.mono_l : ∀ k, (∀ y0 y1 y2 y3 y4 y5, LeO (schema_Fit.l0 k y0 y1 y2 y3 y4 y5) (schema_Fit.l0 (k + 1) y0 y1 y2 y3 y4 y5)) ∧ (∀ y0 y1 y2 y3 y4 y5 y6 y7 y8 y9 y10 y11 y12 y13 y14 y15, LeO (schema_Fit.j1 k y0 y1 y2 y3 y4 y5 y6 y7 y8 y9 y10 y11 y12 y13 y14 y15) (schema_Fit.j1 (k + 1) y0 y1 y2 y3 y4 y5 y6 y7 y8 y9 y10 y11 y12 y13 y14 y15))
 | 0 => ⟨fun _ _ _ _ _ _ r h => by simp [schema_Fit.l0] at h, fun _ _ _ _ _ _ _ _ _ _ _ _ _ _ _ _ r h => by simp [schema_Fit.j1] at h⟩
 | k + 1 => by
  obtain ⟨ih0, ih1⟩ := schema_Fit.mono_l k
  refine ⟨?_, ?_⟩
  ·intro y0 y1 y2 y3 y4 y5
   unfold schema_Fit.l0
   repeat' first
   | (with_reducible exact ih0 _ _ _ _ _ _)
   | (with_reducible exact ih1 _ _ _ _ _ _ _ _ _ _ _ _ _ _ _ _)
   | (with_reducible exact value_Cast.mono _ _ _ _ _ _ _ _)
   | (with_reducible exact LeO.refl _)
   | (with_reducible exact LeO.none _)
   | (with_reducible refine LeO.ite ?_ ?_)
   | (with_reducible refine LeO.bind ?_ (fun _ => ?_))
   | exact ih0 _ _ _ _ _ _
   | exact ih1 _ _ _ _ _ _ _ _ _ _ _ _ _ _ _ _
   | exact value_Cast.mono _ _ _ _ _ _ _ _
   | exact LeO.none _
   | refine LeO.ite ?_ ?_
   | refine LeO.bind ?_ (fun _ => ?_)
  ·intro y0 y1 y2 y3 y4 y5 y6 y7 y8 y9 y10 y11 y12 y13 y14 y15
   unfold schema_Fit.j1
   repeat' first
   | (with_reducible exact ih0 _ _ _ _ _ _)
   | (with_reducible exact ih1 _ _ _ _ _ _ _ _ _ _ _ _ _ _ _ _)
   | (with_reducible exact value_Cast.mono _ _ _ _ _ _ _ _)
   | (with_reducible exact LeO.refl _)
   | (with_reducible exact LeO.none _)
   | (with_reducible refine LeO.ite ?_ ?_)
   | (with_reducible refine LeO.bind ?_ (fun _ => ?_))
   | exact ih0 _ _ _ _ _ _
   | exact ih1 _ _ _ _ _ _ _ _ _ _ _ _ _ _ _ _
   | exact value_Cast.mono _ _ _ _ _ _ _ _
   | exact LeO.none _
   | refine LeO.ite ?_ ?_
   | refine LeO.bind ?_ (fun _ => ?_)
theorem schema_Fit.mono : ∀ a0 a1 a2 k, LeO (schema_Fit.f k a0 a1 a2) (schema_Fit.f (k + 1) a0 a1 a2) := by
 intro a0 a1 a2 k
 obtain ⟨ih0, ih1⟩ := schema_Fit.mono_l k
 unfold schema_Fit.f
 repeat' first
   | (with_reducible exact ih0 _ _ _ _ _ _)
   | (with_reducible exact ih1 _ _ _ _ _ _ _ _ _ _ _ _ _ _ _ _)
   | (with_reducible exact value_Cast.mono _ _ _ _ _ _ _ _)
   | (with_reducible exact LeO.refl _)
   | (with_reducible exact LeO.none _)
   | (with_reducible refine LeO.ite ?_ ?_)
   | (with_reducible refine LeO.bind ?_ (fun _ => ?_))
   | exact ih0 _ _ _ _ _ _
   | exact ih1 _ _ _ _ _ _ _ _ _ _ _ _ _ _ _ _
   | exact value_Cast.mono _ _ _ _ _ _ _ _
   | exact LeO.none _
   | refine LeO.ite ?_ ?_
   | refine LeO.bind ?_ (fun _ => ?_)
set_option maxHeartbeats 8000000 in
set_option maxRecDepth 100000 in
theorem schema_Fit.calls (k : Nat) (a0_0 : ByteArray) (A0_1 : Option Addr) (c0_1 : Nat) (l0_1 : List (S36)) (A1 : Option Addr) (c1 : Nat) (l1 : List (S41)) (r1 : List (S41)) (r2 : Int) (w : World) (hr0_1 : Kd.C k36 w A0_1 l0_1.length l0_1) (hc0_1 : l0_1.length ≤ c0_1) (hr1 : Kd.C k41 w A1 l1.length l1) (hc1 : l1.length ≤ c1) (h : schema_Fit.f k a0_0 l0_1 l1 = some (r1, r2)) :
  Calls Tryz.prog 10 #[.agg #[.string a0_0, .slice A0_1 l0_1.length c0_1], .slice A1 l1.length c1] w fun e w' => ∃ v0_ : Value, e = .returned (.tuple #[v0_, .int .i64 r2]) ∧ Kd.R k41 41 w' w.heap.size (fun _ => True) v0_ r1 ∧ Below w.heap.size w w' := by
 have hu24 := Tryz.underlying24
 have hu41 := Tryz.underlying41
 have hu36 := Tryz.underlying36
 have hu34 := Tryz.underlying34
 have HR0_1 := Aside0.mk hr0_1
 have HC0_1 := Aside0.mk hc0_1
 clear hr0_1 hc0_1
 have HR1 := Aside0.mk hr1
 have HC1 := Aside0.mk hc1
 clear hr1 hc1
 have HB := Aside0.mk (Below.refl w.heap.size w)
 have HF_ := Aside0.mk h
 clear h
 go_enter Tryz.func10, Tryz.ntmps10
 go_upto_region 1 with (first | ((with_reducible refine gate_dst (N := 2) rfl ?_); refine box_event ?hg (N := 2) ?hd (cs := #[.string a0_0, .slice A0_1 l0_1.length c0_1]) (t := 24) ?hr ?_; (case hd => rfl); (case hg => rfl); (case hr => first | (go_simp; done) | (go_simp; rfl)); intro gb163 hg w4 hbox hb; have n0_ := Aside0.mk (below_step zF4_4 hb); have n1_ := Aside0.mk (hbox); have n2_ := Aside0.mk ((zF4_30 : w.heap.size ≤ gb163)); have n3_ := Aside0.mk ((zF4_30 : w.heap.size ≤ gb163)); clear HB; have HB := n0_; have BK163 := n1_; have GW163 := n2_; have GE163 := n3_; clear n0_ n1_ n2_ n3_; clear hb hbox hg; have hcz5_0 : w4.cell? ⟨gb163, 0, none⟩ = some (.string a0_0) := (blk_cell BK163.out 0).trans rfl; have hcz5_1 : w4.cell? ⟨gb163, 1, none⟩ = some (.slice A0_1 l0_1.length c0_1) := (blk_cell BK163.out 1).trans rfl; have hfz5_0 := blk_frozen BK163.out 0; have hfz5_1 := blk_frozen BK163.out 1))
 (try simp only [Act.put, List.setIfInBounds_toArray, List.set_cons_zero, List.set_cons_succ])
 have h := HF_.out
 clear HF_
 have H : (if (l1.length : Int) = (l0_1.length : Int) then (schema_Fit.l0 k ([] : List (S41)) l1 (l1.length : Int) 0 a0_0 l0_1) else (some (([] : List (S41)), 113))) = some (r1, r2) := h
 clear h
 by_cases c3 : (l1.length : Int) = (l0_1.length : Int)
 ·rw [if_pos c3] at H
  have c3b0 : ((l1.length : Int) == (l0_1.length : Int)) = true := beq_iff_eq.mpr c3
  have c3b1 : ((l1.length : Int) != (l0_1.length : Int)) = false := bne_eq_false_iff_eq.mpr c3
  have c3b2 : (l1.length == l0_1.length) = true := by first | simpa using c3 | (simp at c3 ⊢; omega)
  clear c3
  have H' := Aside0.mk H
  clear H
  go_wp2
  go_loopg [6, 20] k (fun kq v6 v20 w' => ∃ (x6_1 : List (S41)) (x20_1 : Int), v20 = .int .i64 x20_1 ∧ Aside0 (schema_Fit.l0 kq x6_1 l1 (l1.length : Int) x20_1 a0_0 l0_1 = some (r1, r2)) ∧ Aside0 (kq ≤ k) ∧ Aside0 (Kd.R k41 41 w' w.heap.size (fun _ => True) v6 x6_1) ∧ Aside0 (w'.heap[gb163]? = some (.cells #[.string a0_0, (.slice A0_1 l0_1.length c0_1)] 24 (0, 0))) ∧ Aside0 (Below w.heap.size w w'))
  case atStart => exact ⟨(([] : List (S41))), (0), zF4_11, H', ⟨Nat.le_refl _⟩, ⟨by first | exact Kd.R_nil _ _ _ _ _ | exact Kd.N_nil _ _ _ _ _ | exact Kd.V_nil _ _ _ _ _ | exact Kd.Q_nil _ _ _ _ _ | exact Kd.S_nil _ _ _ _ _⟩, ⟨by (with_reducible repeat (first | refine blk_drewN ?_ _ | refine blk_drew ?_ | refine blk_alloc ?_ _)); exact BK163.out⟩, ⟨by repeat (first | (with_reducible first | exact HB.out | apply below_alloc | apply pw_below_drewN | apply below_drew1 | refine below_set ?_ GE163.out) | exact HB.out)⟩⟩
  case round =>
   clear H'
   (try clear c1); (try clear c3); (try clear c3b0); (try clear c3b1); (try clear c3b2); (try clear hcz5_0); (try clear hcz5_1); (try clear hfz5_0); (try clear hfz5_1)
   obtain ⟨x6_1, x20_1, rfl, HA, HK1, HO_6, BK163, HB⟩ := hrel
   cases gk with
   | zero => exact absurd HA.out (by simp [schema_Fit.l0])
   | succ k1 =>
    have H := HA.out
    clear HA
    simp only [schema_Fit.l0] at H
    by_cases c6 : x20_1 < (l1.length : Int)
    ·rw [if_pos c6] at H
     have c6b0 : decide (x20_1 < (l1.length : Int)) = true := decide_eq_true c6
     clear c6
     by_cases c7 : 0 ≤ x20_1
     ·rw [if_pos c7] at H
      have c7b0 : decide (0 ≤ x20_1) = true := decide_eq_true c7
      clear c7
      by_cases c8 : x20_1 < (l1.length : Int)
      ·rw [if_pos c8] at H
       have c8b0 : decide (x20_1 < (l1.length : Int)) = true := decide_eq_true c8
       clear c8
       by_cases c9 : x20_1 < (l0_1.length : Int)
       ·rw [if_pos c9] at H
        have c9b0 : decide (x20_1 < (l0_1.length : Int)) = true := decide_eq_true c9
        clear c9
        have HC10 := Aside0.mk H
        clear H
        have p164 : 0 ≤ (x20_1 : Int) := of_decide_eq_true zF4_25
        have q164 : x20_1 < (l1.length : Int) := of_decide_eq_true zF4_25
        obtain ⟨ad164, e164, hx164_0, hx164_1, hx164_2, hx164_3, hx164_4⟩ := at_T41 HR1.out x20_1 p164 q164
        cases e164
        replace hx164_0 := (HB.out.cell (World.block_lt_of_cell? w _ hx164_0)).trans hx164_0
        replace hx164_1 := (HB.out.cell (World.block_lt_of_cell? w _ hx164_1)).trans hx164_1
        replace hx164_2 := (HB.out.cell (World.block_lt_of_cell? w _ hx164_2)).trans hx164_2
        replace hx164_3 := (HB.out.cell (World.block_lt_of_cell? w _ hx164_3)).trans hx164_3
        replace hx164_4 := (HB.out.cell (World.block_lt_of_cell? w _ hx164_4)).trans hx164_4
        replace p164 := eq_true p164
        replace q164 := eq_true q164
        go_upto_region 8 with (first | ((with_reducible refine gate_dst (N := 8) rfl ?_); refine box_event ?hg (N := 8) ?hd (cs := #[.int .i64 0, .int .i64 0, .bool false, .int .i64 0, .string (⟨#[]⟩ : ByteArray)]) (t := 41) ?hr ?_; (case hd => rfl); (case hg => rfl); (case hr => first | (go_simp; done) | (go_simp; rfl)); intro gb165 hg w11 hbox hb; have n0_ := Aside0.mk (Kd.R_below (Kd.R_elderB zF4_10 gb165 (Nat.le_of_eq hg.symm)) hb); have n1_ := Aside0.mk (blk_below (g := gb163) (o := .cells #[.string a0_0, .slice A0_1 l0_1.length c0_1] 24 (0, 0)) zF4_5 hb); have n2_ := Aside0.mk (below_step zF4_14 hb); have n3_ := Aside0.mk (hbox); have n4_ := Aside0.mk ((by rw [hg]; exact (below_size zF4_14) : w.heap.size ≤ gb165)); have n5_ := Aside0.mk ((by rw [hg]; exact (below_size zF4_14) : w.heap.size ≤ gb165)); have n6_ := Aside0.mk ((by rw [hg]; exact Nat.ne_of_lt (blk_lt (g := gb163) (o := .cells #[.string a0_0, .slice A0_1 l0_1.length c0_1] 24 (0, 0)) zF4_5) : gb163 ≠ gb165)); have n7_ := Aside0.mk ((by rw [hg]; exact Nat.ne_of_gt (blk_lt (g := gb163) (o := .cells #[.string a0_0, .slice A0_1 l0_1.length c0_1] 24 (0, 0)) zF4_5) : gb165 ≠ gb163)); clear HO_6; clear BK163; clear HB; have HO_6 := n0_; have BK163 := n1_; have HB := n2_; have BK165 := n3_; have GW165 := n4_; have GE165 := n5_; have NB163_165 := n6_; have NB165_163 := n7_; clear n0_ n1_ n2_ n3_ n4_ n5_ n6_ n7_; clear hb hbox hg; have hnb12 := NB165_163.out; have hnc12 := NB163_165.out; have hcz13_0 : w11.cell? ⟨gb165, 0, none⟩ = some (.int .i64 0) := (blk_cell BK165.out 0).trans rfl; have hcz13_1 : w11.cell? ⟨gb165, 1, none⟩ = some (.int .i64 0) := (blk_cell BK165.out 1).trans rfl; have hcz13_2 : w11.cell? ⟨gb165, 2, none⟩ = some (.bool false) := (blk_cell BK165.out 2).trans rfl; have hcz13_3 : w11.cell? ⟨gb165, 3, none⟩ = some (.int .i64 0) := (blk_cell BK165.out 3).trans rfl; have hcz13_4 : w11.cell? ⟨gb165, 4, none⟩ = some (.string (⟨#[]⟩ : ByteArray)) := (blk_cell BK165.out 4).trans rfl; have hfz13_0 := blk_frozen BK165.out 0; have hfz13_1 := blk_frozen BK165.out 1; have hfz13_2 := blk_frozen BK165.out 2; have hfz13_3 := blk_frozen BK165.out 3; have hfz13_4 := blk_frozen BK165.out 4; have hcz14_0 : w11.cell? ⟨gb163, 0, none⟩ = some (.string a0_0) := (blk_cell BK163.out 0).trans rfl; have hcz14_1 : w11.cell? ⟨gb163, 1, none⟩ = some (.slice A0_1 l0_1.length c0_1) := (blk_cell BK163.out 1).trans rfl; have hfz14_0 := blk_frozen BK163.out 0; have hfz14_1 := blk_frozen BK163.out 1; have p166 : 0 ≤ (x20_1 : Int) := of_decide_eq_true zF4_25; have q166 : x20_1 < (l0_1.length : Int) := of_decide_eq_true zF4_25; obtain ⟨ad166, e166, hx166_0, hx166_1, hx166_2, hx166_3⟩ := at_T36 HR0_1.out x20_1 p166 q166; cases e166; have hn166_0 : ad166.block ≠ gb165 := Nat.ne_of_lt (Nat.lt_of_lt_of_le (by have := World.block_lt_of_cell? _ _ hx166_0; first | rwa [add_block] at this | exact this) GW165.out); have hn166_1 : ad166.block ≠ gb165 := Nat.ne_of_lt (Nat.lt_of_lt_of_le (by have := World.block_lt_of_cell? _ _ hx166_0; first | rwa [add_block] at this | exact this) GW165.out); have hn166_2 : ad166.block ≠ gb165 := Nat.ne_of_lt (Nat.lt_of_lt_of_le (by have := World.block_lt_of_cell? _ _ hx166_0; first | rwa [add_block] at this | exact this) GW165.out); have hn166_3 : ad166.block ≠ gb165 := Nat.ne_of_lt (Nat.lt_of_lt_of_le (by have := World.block_lt_of_cell? _ _ hx166_0; first | rwa [add_block] at this | exact this) GW165.out); have hn166_4 : ad166.block ≠ gb165 := Nat.ne_of_lt (Nat.lt_of_lt_of_le (by have := World.block_lt_of_cell? _ _ hx166_0; first | rwa [add_block] at this | exact this) GW165.out); replace hx166_0 := (HB.out.cell (World.block_lt_of_cell? w _ hx166_0)).trans hx166_0; replace hx166_1 := (HB.out.cell (World.block_lt_of_cell? w _ hx166_1)).trans hx166_1; replace hx166_2 := (HB.out.cell (World.block_lt_of_cell? w _ hx166_2)).trans hx166_2; replace hx166_3 := (HB.out.cell (World.block_lt_of_cell? w _ hx166_3)).trans hx166_3; replace hx166_0 := (cell_far (p := ⟨gb165, 0, none⟩) zF4_17 (.int .i64 ((rd_T41 l1 x20_1).f0.f0))).trans hx166_0; replace hx166_1 := (cell_far (p := ⟨gb165, 0, none⟩) zF4_17 (.int .i64 ((rd_T41 l1 x20_1).f0.f0))).trans hx166_1; replace hx166_2 := (cell_far (p := ⟨gb165, 0, none⟩) zF4_17 (.int .i64 ((rd_T41 l1 x20_1).f0.f0))).trans hx166_2; replace hx166_3 := (cell_far (p := ⟨gb165, 0, none⟩) zF4_17 (.int .i64 ((rd_T41 l1 x20_1).f0.f0))).trans hx166_3; replace hx166_0 := (cell_far (p := ⟨gb165, 1, none⟩) zF4_18 (.int .i64 ((rd_T41 l1 x20_1).f0.f1))).trans hx166_0; replace hx166_1 := (cell_far (p := ⟨gb165, 1, none⟩) zF4_18 (.int .i64 ((rd_T41 l1 x20_1).f0.f1))).trans hx166_1; replace hx166_2 := (cell_far (p := ⟨gb165, 1, none⟩) zF4_18 (.int .i64 ((rd_T41 l1 x20_1).f0.f1))).trans hx166_2; replace hx166_3 := (cell_far (p := ⟨gb165, 1, none⟩) zF4_18 (.int .i64 ((rd_T41 l1 x20_1).f0.f1))).trans hx166_3; replace hx166_0 := (cell_far (p := ⟨gb165, 2, none⟩) zF4_19 (.bool ((rd_T41 l1 x20_1).f1))).trans hx166_0; replace hx166_1 := (cell_far (p := ⟨gb165, 2, none⟩) zF4_19 (.bool ((rd_T41 l1 x20_1).f1))).trans hx166_1; replace hx166_2 := (cell_far (p := ⟨gb165, 2, none⟩) zF4_19 (.bool ((rd_T41 l1 x20_1).f1))).trans hx166_2; replace hx166_3 := (cell_far (p := ⟨gb165, 2, none⟩) zF4_19 (.bool ((rd_T41 l1 x20_1).f1))).trans hx166_3; replace hx166_0 := (cell_far (p := ⟨gb165, 3, none⟩) zF4_20 (.int .i64 ((rd_T41 l1 x20_1).f2))).trans hx166_0; replace hx166_1 := (cell_far (p := ⟨gb165, 3, none⟩) zF4_20 (.int .i64 ((rd_T41 l1 x20_1).f2))).trans hx166_1; replace hx166_2 := (cell_far (p := ⟨gb165, 3, none⟩) zF4_20 (.int .i64 ((rd_T41 l1 x20_1).f2))).trans hx166_2; replace hx166_3 := (cell_far (p := ⟨gb165, 3, none⟩) zF4_20 (.int .i64 ((rd_T41 l1 x20_1).f2))).trans hx166_3; replace hx166_0 := (cell_far (p := ⟨gb165, 4, none⟩) zF4_21 (.string ((rd_T41 l1 x20_1).f3))).trans hx166_0; replace hx166_1 := (cell_far (p := ⟨gb165, 4, none⟩) zF4_21 (.string ((rd_T41 l1 x20_1).f3))).trans hx166_1; replace hx166_2 := (cell_far (p := ⟨gb165, 4, none⟩) zF4_21 (.string ((rd_T41 l1 x20_1).f3))).trans hx166_2; replace hx166_3 := (cell_far (p := ⟨gb165, 4, none⟩) zF4_21 (.string ((rd_T41 l1 x20_1).f3))).trans hx166_3; clear hn166_0; clear hn166_1; clear hn166_2; clear hn166_3; clear hn166_4; replace p166 := eq_true p166; replace q166 := eq_true q166) | ((with_reducible refine gate_dst (N := 9) rfl ?_); refine box_event ?hg (N := 9) ?hd (cs := #[.string (⟨#[]⟩ : ByteArray), .int .i64 0, .int .i64 0, .bool false]) (t := 36) ?hr ?_; (case hd => rfl); (case hg => rfl); (case hr => first | (go_simp; done) | (go_simp; rfl)); intro gb167 hg w15 hbox hb; have n0_ := Aside0.mk (Kd.R_below (by (with_reducible repeat (first | apply Kd.R_alloc | apply Kd.R_drewN | apply Kd.R_drew)); exact (Kd.R_mono (Kd.R_far (p := ⟨gb165, 4, none⟩) (Kd.R_far (p := ⟨gb165, 3, none⟩) (Kd.R_far (p := ⟨gb165, 2, none⟩) (Kd.R_far (p := ⟨gb165, 1, none⟩) (Kd.R_far (p := ⟨gb165, 0, none⟩) (Kd.R_mono HO_6.out (fun k_ hk => (⟨hk, hk.2⟩ : _ ∧ k_ ≠ gb165))) (fun _ hk => hk.2) (.int .i64 ((rd_T41 l1 x20_1).f0.f0))) (fun _ hk => hk.2) (.int .i64 ((rd_T41 l1 x20_1).f0.f1))) (fun _ hk => hk.2) (.bool ((rd_T41 l1 x20_1).f1))) (fun _ hk => hk.2) (.int .i64 ((rd_T41 l1 x20_1).f2))) (fun _ hk => hk.2) (.string ((rd_T41 l1 x20_1).f3))) (fun _ h_ => h_.1))) hb); have n1_ := Aside0.mk (blk_below (g := gb163) (o := .cells #[.string a0_0, .slice (some ad166) l0_1.length c0_1] 24 (0, 0)) zF4_3 hb); have n2_ := Aside0.mk (blk_below (g := gb165) (o := .cells #[.int .i64 ((rd_T41 l1 x20_1).f0.f0), .int .i64 ((rd_T41 l1 x20_1).f0.f1), .bool ((rd_T41 l1 x20_1).f1), .int .i64 ((rd_T41 l1 x20_1).f2), .string ((rd_T41 l1 x20_1).f3)] 41 (0, 0)) zF4_0 hb); have n3_ := Aside0.mk (below_step zF4_12 hb); have n4_ := Aside0.mk (hbox); have n5_ := Aside0.mk ((by rw [hg]; exact (below_size zF4_12) : w.heap.size ≤ gb167)); have n6_ := Aside0.mk ((by rw [hg]; exact (below_size zF4_12) : w.heap.size ≤ gb167)); have n7_ := Aside0.mk ((by rw [hg]; exact Nat.ne_of_lt (blk_lt (g := gb163) (o := .cells #[.string a0_0, .slice (some ad166) l0_1.length c0_1] 24 (0, 0)) zF4_3) : gb163 ≠ gb167)); have n8_ := Aside0.mk ((by rw [hg]; exact Nat.ne_of_gt (blk_lt (g := gb163) (o := .cells #[.string a0_0, .slice (some ad166) l0_1.length c0_1] 24 (0, 0)) zF4_3) : gb167 ≠ gb163)); have n9_ := Aside0.mk ((by rw [hg]; exact Nat.ne_of_lt (blk_lt (g := gb165) (o := .cells #[.int .i64 ((rd_T41 l1 x20_1).f0.f0), .int .i64 ((rd_T41 l1 x20_1).f0.f1), .bool ((rd_T41 l1 x20_1).f1), .int .i64 ((rd_T41 l1 x20_1).f2), .string ((rd_T41 l1 x20_1).f3)] 41 (0, 0)) zF4_0) : gb165 ≠ gb167)); have n10_ := Aside0.mk ((by rw [hg]; exact Nat.ne_of_gt (blk_lt (g := gb165) (o := .cells #[.int .i64 ((rd_T41 l1 x20_1).f0.f0), .int .i64 ((rd_T41 l1 x20_1).f0.f1), .bool ((rd_T41 l1 x20_1).f1), .int .i64 ((rd_T41 l1 x20_1).f2), .string ((rd_T41 l1 x20_1).f3)] 41 (0, 0)) zF4_0) : gb167 ≠ gb165)); clear HO_6; clear BK163; clear BK165; clear HB; have HO_6 := n0_; have BK163 := n1_; have BK165 := n2_; have HB := n3_; have BK167 := n4_; have GW167 := n5_; have GE167 := n6_; have NB163_167 := n7_; have NB167_163 := n8_; have NB165_167 := n9_; have NB167_165 := n10_; clear n0_ n1_ n2_ n3_ n4_ n5_ n6_ n7_ n8_ n9_ n10_; clear hb hbox hg; have hnb16 := NB167_163.out; have hnc16 := NB163_167.out; have hnb17 := NB167_165.out; have hnc17 := NB165_167.out; have hcz18_0 : w15.cell? ⟨gb167, 0, none⟩ = some (.string (⟨#[]⟩ : ByteArray)) := (blk_cell BK167.out 0).trans rfl; have hcz18_1 : w15.cell? ⟨gb167, 1, none⟩ = some (.int .i64 0) := (blk_cell BK167.out 1).trans rfl; have hcz18_2 : w15.cell? ⟨gb167, 2, none⟩ = some (.int .i64 0) := (blk_cell BK167.out 2).trans rfl; have hcz18_3 : w15.cell? ⟨gb167, 3, none⟩ = some (.bool false) := (blk_cell BK167.out 3).trans rfl; have hfz18_0 := blk_frozen BK167.out 0; have hfz18_1 := blk_frozen BK167.out 1; have hfz18_2 := blk_frozen BK167.out 2; have hfz18_3 := blk_frozen BK167.out 3))
        (try simp only [Act.put, List.setIfInBounds_toArray, List.set_cons_zero, List.set_cons_succ])
        go_cut [30] (fun v30 wc => ∃ (kq : Nat) (x30_9 : Bool), v30 = .bool x30_9 ∧ Aside0 (schema_Fit.j1 kq x6_1 l1 (l1.length : Int) x20_1 x30_9 a0_0 l0_1 ((rd_T41 l1 x20_1).f0.f0) ((rd_T41 l1 x20_1).f0.f1) ((rd_T41 l1 x20_1).f1) ((rd_T41 l1 x20_1).f2) ((rd_T41 l1 x20_1).f3) ((rd_T36 l0_1 x20_1).f0) ((rd_T36 l0_1 x20_1).f1.f0) ((rd_T36 l0_1 x20_1).f1.f1) ((rd_T36 l0_1 x20_1).f2) = some (r1, r2)) ∧ Aside0 (kq ≤ k1) ∧ Aside0 (Kd.R k41 41 wc w.heap.size (fun k_ => k_ ≠ gb165) u6 x6_1) ∧ Aside0 (wc.heap[gb163]? = some (.cells #[.string a0_0, (.slice (some ad166) l0_1.length c0_1)] 24 (0, 0))) ∧ Aside0 (wc.heap[gb165]? = some (.cells #[.int .i64 ((rd_T41 l1 x20_1).f0.f0), .int .i64 ((rd_T41 l1 x20_1).f0.f1), .bool ((rd_T41 l1 x20_1).f1), .int .i64 ((rd_T41 l1 x20_1).f2), .string ((rd_T41 l1 x20_1).f3)] 41 (0, 0))) ∧ Aside0 (wc.heap[gb167]? = some (.cells #[.string ((rd_T36 l0_1 x20_1).f0), .int .i64 ((rd_T36 l0_1 x20_1).f1.f0), .int .i64 ((rd_T36 l0_1 x20_1).f1.f1), .bool ((rd_T36 l0_1 x20_1).f2)] 36 (0, 0))) ∧ Aside0 (Below w.heap.size w wc))
        case first =>
         have H := HC10.out
         clear HC10
         obtain ⟨bq19, hbq19⟩ : ∃ b_ : Bool, b_ = ((rd_T41 l1 x20_1).f1) := ⟨_, rfl⟩
         replace H : (if bq19 = true then (schema_Fit.j1 k1 x6_1 l1 (l1.length : Int) x20_1 ((rd_T36 l0_1 x20_1).f2) a0_0 l0_1 ((rd_T41 l1 x20_1).f0.f0) ((rd_T41 l1 x20_1).f0.f1) bq19 ((rd_T41 l1 x20_1).f2) ((rd_T41 l1 x20_1).f3) ((rd_T36 l0_1 x20_1).f0) ((rd_T36 l0_1 x20_1).f1.f0) ((rd_T36 l0_1 x20_1).f1.f1) ((rd_T36 l0_1 x20_1).f2)) else (schema_Fit.j1 k1 x6_1 l1 (l1.length : Int) x20_1 false a0_0 l0_1 ((rd_T41 l1 x20_1).f0.f0) ((rd_T41 l1 x20_1).f0.f1) bq19 ((rd_T41 l1 x20_1).f2) ((rd_T41 l1 x20_1).f3) ((rd_T36 l0_1 x20_1).f0) ((rd_T36 l0_1 x20_1).f1.f0) ((rd_T36 l0_1 x20_1).f1.f1) ((rd_T36 l0_1 x20_1).f2))) = some (r1, r2) := by rw [← hbq19] at H; exact H
         have Nbq19 := Aside0.mk hbq19
         clear hbq19
         (try rw [← Nbq19.out])
         by_cases c20 : bq19 = true
         ·subst c20
          have H1 : (schema_Fit.j1 k1 x6_1 l1 (l1.length : Int) x20_1 ((rd_T36 l0_1 x20_1).f2) a0_0 l0_1 ((rd_T41 l1 x20_1).f0.f0) ((rd_T41 l1 x20_1).f0.f1) true ((rd_T41 l1 x20_1).f2) ((rd_T41 l1 x20_1).f3) ((rd_T36 l0_1 x20_1).f0) ((rd_T36 l0_1 x20_1).f1.f0) ((rd_T36 l0_1 x20_1).f1.f1) ((rd_T36 l0_1 x20_1).f2)) = some (r1, r2) := by rw [if_pos rfl] at H; exact H
          clear H
          have H := H1
          clear H1
          have H' := Aside0.mk H
          clear H
          have hnb21 := NB165_163.out
          have hnc21 := NB163_165.out
          have hnb22 := NB165_167.out
          have hnc22 := NB167_165.out
          have hcz23_0 : w15.cell? ⟨gb165, 0, none⟩ = some (.int .i64 ((rd_T41 l1 x20_1).f0.f0)) := (blk_cell BK165.out 0).trans rfl
          have hcz23_1 : w15.cell? ⟨gb165, 1, none⟩ = some (.int .i64 ((rd_T41 l1 x20_1).f0.f1)) := (blk_cell BK165.out 1).trans rfl
          have hcz23_2 : w15.cell? ⟨gb165, 2, none⟩ = some (.bool true) := (blk_cell BK165.out 2).trans (by first | rfl | (rw [← Nbq19.out]; rfl))
          have hcz23_3 : w15.cell? ⟨gb165, 3, none⟩ = some (.int .i64 ((rd_T41 l1 x20_1).f2)) := (blk_cell BK165.out 3).trans rfl
          have hcz23_4 : w15.cell? ⟨gb165, 4, none⟩ = some (.string ((rd_T41 l1 x20_1).f3)) := (blk_cell BK165.out 4).trans rfl
          have hfz23_0 := blk_frozen BK165.out 0
          have hfz23_1 := blk_frozen BK165.out 1
          have hfz23_2 := blk_frozen BK165.out 2
          have hfz23_3 := blk_frozen BK165.out 3
          have hfz23_4 := blk_frozen BK165.out 4
          have hnb24 := NB167_163.out
          have hnc24 := NB163_167.out
          have hcz25_0 : w15.cell? ⟨gb167, 0, none⟩ = some (.string (⟨#[]⟩ : ByteArray)) := (blk_cell BK167.out 0).trans rfl
          have hcz25_1 : w15.cell? ⟨gb167, 1, none⟩ = some (.int .i64 0) := (blk_cell BK167.out 1).trans rfl
          have hcz25_2 : w15.cell? ⟨gb167, 2, none⟩ = some (.int .i64 0) := (blk_cell BK167.out 2).trans rfl
          have hcz25_3 : w15.cell? ⟨gb167, 3, none⟩ = some (.bool false) := (blk_cell BK167.out 3).trans (by first | rfl | (rw [← Nbq19.out]; rfl))
          have hfz25_0 := blk_frozen BK167.out 0
          have hfz25_1 := blk_frozen BK167.out 1
          have hfz25_2 := blk_frozen BK167.out 2
          have hfz25_3 := blk_frozen BK167.out 3
          go_wp2
          go_meet
          case rel => exact ⟨_, ((rd_T36 l0_1 x20_1).f2), zF4_11, (by first | exact H' | (rw [← Nbq19.out]; exact H')), ⟨by have := HK1.out; first | omega | exact Nat.le_refl _⟩, ⟨by (with_reducible repeat (first | apply Kd.R_alloc | apply Kd.R_drewN | apply Kd.R_drew)); exact Kd.R_mono (Kd.R_far (p := ⟨gb167, 3, none⟩) (Kd.R_far (p := ⟨gb167, 2, none⟩) (Kd.R_far (p := ⟨gb167, 1, none⟩) (Kd.R_far (p := ⟨gb167, 0, none⟩) (Kd.R_types HO_6.out BK167.out (by decide)) (fun _ hk => hk.2) (.string ((rd_T36 l0_1 x20_1).f0))) (fun _ hk => hk.2) (.int .i64 ((rd_T36 l0_1 x20_1).f1.f0))) (fun _ hk => hk.2) (.int .i64 ((rd_T36 l0_1 x20_1).f1.f1))) (fun _ hk => hk.2) (.bool ((rd_T36 l0_1 x20_1).f2))) (fun _ hk => hk.1.2)⟩, ⟨by (with_reducible repeat (first | refine blk_drewN ?_ _ | refine blk_drew ?_ | refine blk_alloc ?_ _)); refine blk_far ?_ NB163_167.out _; (with_reducible repeat (first | refine blk_drewN ?_ _ | refine blk_drew ?_ | refine blk_alloc ?_ _)); refine blk_far ?_ NB163_167.out _; (with_reducible repeat (first | refine blk_drewN ?_ _ | refine blk_drew ?_ | refine blk_alloc ?_ _)); refine blk_far ?_ NB163_167.out _; (with_reducible repeat (first | refine blk_drewN ?_ _ | refine blk_drew ?_ | refine blk_alloc ?_ _)); refine blk_far ?_ NB163_167.out _; (with_reducible repeat (first | refine blk_drewN ?_ _ | refine blk_drew ?_ | refine blk_alloc ?_ _)); exact BK163.out⟩, ⟨by (with_reducible repeat (first | refine blk_drewN ?_ _ | refine blk_drew ?_ | refine blk_alloc ?_ _)); refine blk_far ?_ NB165_167.out _; (with_reducible repeat (first | refine blk_drewN ?_ _ | refine blk_drew ?_ | refine blk_alloc ?_ _)); refine blk_far ?_ NB165_167.out _; (with_reducible repeat (first | refine blk_drewN ?_ _ | refine blk_drew ?_ | refine blk_alloc ?_ _)); refine blk_far ?_ NB165_167.out _; (with_reducible repeat (first | refine blk_drewN ?_ _ | refine blk_drew ?_ | refine blk_alloc ?_ _)); refine blk_far ?_ NB165_167.out _; (with_reducible repeat (first | refine blk_drewN ?_ _ | refine blk_drew ?_ | refine blk_alloc ?_ _)); exact BK165.out⟩, ⟨by (with_reducible repeat (first | refine blk_drewN ?_ _ | refine blk_drew ?_ | refine blk_alloc ?_ _)); refine blk_put (cs := #[.string ((rd_T36 l0_1 x20_1).f0), .int .i64 ((rd_T36 l0_1 x20_1).f1.f0), .int .i64 ((rd_T36 l0_1 x20_1).f1.f1), .bool false]) ?_ 3 _ rfl; (with_reducible repeat (first | refine blk_drewN ?_ _ | refine blk_drew ?_ | refine blk_alloc ?_ _)); refine blk_put (cs := #[.string ((rd_T36 l0_1 x20_1).f0), .int .i64 ((rd_T36 l0_1 x20_1).f1.f0), .int .i64 0, .bool false]) ?_ 2 _ rfl; (with_reducible repeat (first | refine blk_drewN ?_ _ | refine blk_drew ?_ | refine blk_alloc ?_ _)); refine blk_put (cs := #[.string ((rd_T36 l0_1 x20_1).f0), .int .i64 0, .int .i64 0, .bool false]) ?_ 1 _ rfl; (with_reducible repeat (first | refine blk_drewN ?_ _ | refine blk_drew ?_ | refine blk_alloc ?_ _)); refine blk_put (cs := #[.string (⟨#[]⟩ : ByteArray), .int .i64 0, .int .i64 0, .bool false]) ?_ 0 _ rfl; (with_reducible repeat (first | refine blk_drewN ?_ _ | refine blk_drew ?_ | refine blk_alloc ?_ _)); exact BK167.out⟩, ⟨by repeat (first | (with_reducible first | exact HB.out | apply below_alloc | apply pw_below_drewN | apply below_drew1 | refine below_set ?_ GE163.out | refine below_set ?_ GE165.out | refine below_set ?_ GE167.out) | exact HB.out)⟩⟩
         ·replace c20 := Bool.eq_false_iff.mpr c20
          subst c20
          have H1 : (schema_Fit.j1 k1 x6_1 l1 (l1.length : Int) x20_1 false a0_0 l0_1 ((rd_T41 l1 x20_1).f0.f0) ((rd_T41 l1 x20_1).f0.f1) false ((rd_T41 l1 x20_1).f2) ((rd_T41 l1 x20_1).f3) ((rd_T36 l0_1 x20_1).f0) ((rd_T36 l0_1 x20_1).f1.f0) ((rd_T36 l0_1 x20_1).f1.f1) ((rd_T36 l0_1 x20_1).f2)) = some (r1, r2) := by rw [if_neg (show ¬ (false = true) by decide)] at H; exact H
          clear H
          have H := H1
          clear H1
          have H' := Aside0.mk H
          clear H
          have hnb26 := NB165_163.out
          have hnc26 := NB163_165.out
          have hnb27 := NB165_167.out
          have hnc27 := NB167_165.out
          have hcz28_0 : w15.cell? ⟨gb165, 0, none⟩ = some (.int .i64 ((rd_T41 l1 x20_1).f0.f0)) := (blk_cell BK165.out 0).trans rfl
          have hcz28_1 : w15.cell? ⟨gb165, 1, none⟩ = some (.int .i64 ((rd_T41 l1 x20_1).f0.f1)) := (blk_cell BK165.out 1).trans rfl
          have hcz28_2 : w15.cell? ⟨gb165, 2, none⟩ = some (.bool false) := (blk_cell BK165.out 2).trans (by first | rfl | (rw [← Nbq19.out]; rfl))
          have hcz28_3 : w15.cell? ⟨gb165, 3, none⟩ = some (.int .i64 ((rd_T41 l1 x20_1).f2)) := (blk_cell BK165.out 3).trans rfl
          have hcz28_4 : w15.cell? ⟨gb165, 4, none⟩ = some (.string ((rd_T41 l1 x20_1).f3)) := (blk_cell BK165.out 4).trans rfl
          have hfz28_0 := blk_frozen BK165.out 0
          have hfz28_1 := blk_frozen BK165.out 1
          have hfz28_2 := blk_frozen BK165.out 2
          have hfz28_3 := blk_frozen BK165.out 3
          have hfz28_4 := blk_frozen BK165.out 4
          go_wp2
          go_meet
          case rel => exact ⟨_, (false), zF4_11, (by first | exact H' | (rw [← Nbq19.out]; exact H')), ⟨by have := HK1.out; first | omega | exact Nat.le_refl _⟩, ⟨by (with_reducible repeat (first | apply Kd.R_alloc | apply Kd.R_drewN | apply Kd.R_drew)); exact Kd.R_mono (Kd.R_far (p := ⟨gb167, 3, none⟩) (Kd.R_far (p := ⟨gb167, 2, none⟩) (Kd.R_far (p := ⟨gb167, 1, none⟩) (Kd.R_far (p := ⟨gb167, 0, none⟩) (Kd.R_types HO_6.out BK167.out (by decide)) (fun _ hk => hk.2) (.string ((rd_T36 l0_1 x20_1).f0))) (fun _ hk => hk.2) (.int .i64 ((rd_T36 l0_1 x20_1).f1.f0))) (fun _ hk => hk.2) (.int .i64 ((rd_T36 l0_1 x20_1).f1.f1))) (fun _ hk => hk.2) (.bool ((rd_T36 l0_1 x20_1).f2))) (fun _ hk => hk.1.2)⟩, ⟨by (with_reducible repeat (first | refine blk_drewN ?_ _ | refine blk_drew ?_ | refine blk_alloc ?_ _)); refine blk_far ?_ NB163_167.out _; (with_reducible repeat (first | refine blk_drewN ?_ _ | refine blk_drew ?_ | refine blk_alloc ?_ _)); refine blk_far ?_ NB163_167.out _; (with_reducible repeat (first | refine blk_drewN ?_ _ | refine blk_drew ?_ | refine blk_alloc ?_ _)); refine blk_far ?_ NB163_167.out _; (with_reducible repeat (first | refine blk_drewN ?_ _ | refine blk_drew ?_ | refine blk_alloc ?_ _)); refine blk_far ?_ NB163_167.out _; (with_reducible repeat (first | refine blk_drewN ?_ _ | refine blk_drew ?_ | refine blk_alloc ?_ _)); exact BK163.out⟩, ⟨by (with_reducible repeat (first | refine blk_drewN ?_ _ | refine blk_drew ?_ | refine blk_alloc ?_ _)); refine blk_far ?_ NB165_167.out _; (with_reducible repeat (first | refine blk_drewN ?_ _ | refine blk_drew ?_ | refine blk_alloc ?_ _)); refine blk_far ?_ NB165_167.out _; (with_reducible repeat (first | refine blk_drewN ?_ _ | refine blk_drew ?_ | refine blk_alloc ?_ _)); refine blk_far ?_ NB165_167.out _; (with_reducible repeat (first | refine blk_drewN ?_ _ | refine blk_drew ?_ | refine blk_alloc ?_ _)); refine blk_far ?_ NB165_167.out _; (with_reducible repeat (first | refine blk_drewN ?_ _ | refine blk_drew ?_ | refine blk_alloc ?_ _)); exact BK165.out⟩, ⟨by (with_reducible repeat (first | refine blk_drewN ?_ _ | refine blk_drew ?_ | refine blk_alloc ?_ _)); refine blk_put (cs := #[.string ((rd_T36 l0_1 x20_1).f0), .int .i64 ((rd_T36 l0_1 x20_1).f1.f0), .int .i64 ((rd_T36 l0_1 x20_1).f1.f1), .bool false]) ?_ 3 _ rfl; (with_reducible repeat (first | refine blk_drewN ?_ _ | refine blk_drew ?_ | refine blk_alloc ?_ _)); refine blk_put (cs := #[.string ((rd_T36 l0_1 x20_1).f0), .int .i64 ((rd_T36 l0_1 x20_1).f1.f0), .int .i64 0, .bool false]) ?_ 2 _ rfl; (with_reducible repeat (first | refine blk_drewN ?_ _ | refine blk_drew ?_ | refine blk_alloc ?_ _)); refine blk_put (cs := #[.string ((rd_T36 l0_1 x20_1).f0), .int .i64 0, .int .i64 0, .bool false]) ?_ 1 _ rfl; (with_reducible repeat (first | refine blk_drewN ?_ _ | refine blk_drew ?_ | refine blk_alloc ?_ _)); refine blk_put (cs := #[.string (⟨#[]⟩ : ByteArray), .int .i64 0, .int .i64 0, .bool false]) ?_ 0 _ rfl; (with_reducible repeat (first | refine blk_drewN ?_ _ | refine blk_drew ?_ | refine blk_alloc ?_ _)); exact BK167.out⟩, ⟨by repeat (first | (with_reducible first | exact HB.out | apply below_alloc | apply pw_below_drewN | apply below_drew1 | refine below_set ?_ GE163.out | refine below_set ?_ GE165.out | refine below_set ?_ GE167.out) | exact HB.out)⟩⟩
        case rest =>
         clear HC10
         (try clear c1); (try clear c3); (try clear c3b0); (try clear c3b1); (try clear c3b2); (try clear c6); (try clear c6b0); (try clear c7); (try clear c7b0); (try clear c8); (try clear c8b0); (try clear c9); (try clear c9b0); (try clear hcz13_0); (try clear hcz13_1); (try clear hcz13_2); (try clear hcz13_3); (try clear hcz13_4); (try clear hcz14_0); (try clear hcz14_1); (try clear hcz18_0); (try clear hcz18_1); (try clear hcz18_2); (try clear hcz18_3); (try clear hcz5_0); (try clear hcz5_1); (try clear hfz13_0); (try clear hfz13_1); (try clear hfz13_2); (try clear hfz13_3); (try clear hfz13_4)
         (try clear hfz14_0); (try clear hfz14_1); (try clear hfz18_0); (try clear hfz18_1); (try clear hfz18_2); (try clear hfz18_3); (try clear hfz5_0); (try clear hfz5_1); (try clear hx164_0); (try clear hx164_1); (try clear hx164_2); (try clear hx164_3); (try clear hx164_4); (try clear hx166_0); (try clear hx166_1); (try clear hx166_2); (try clear hx166_3); (try clear p164); (try clear p166); (try clear q164); (try clear q166)
         obtain ⟨kq, x30_9, rfl, HA, HJ9, HO_6, BK163, BK165, BK167, HB⟩ := hcut
         cases kq with
         | zero => exact absurd HA.out (by simp [schema_Fit.j1])
         | succ kj9 =>
          have H := HA.out
          clear HA
          simp only [schema_Fit.j1] at H
          by_cases c29 : x30_9 = true
          ·subst c29
           have H1 : (some (([] : List (S41)), 112)) = some (r1, r2) := by rw [if_pos rfl] at H; exact H
           clear H
           have H := H1
           clear H1
           simp only [Option.some.injEq, Prod.mk.injEq] at H
           obtain ⟨rfl, rfl⟩ := H
           go_wp2
           go_ret2
           exact ⟨_, by first | rfl | (simp [errW_none, errW_some] <;> rfl) | (simp [*, errW_none, errW_some] <;> rfl), by first | exact Kd.R_nil _ _ _ _ _ | exact Kd.N_nil _ _ _ _ _ | exact Kd.V_nil _ _ _ _ _ | exact Kd.Q_nil _ _ _ _ _ | exact Kd.S_nil _ _ _ _ _, by repeat (first | (with_reducible first | exact HB.out | apply below_alloc | apply pw_below_drewN | apply below_drew1 | refine below_set ?_ GE163.out | refine below_set ?_ GE165.out | refine below_set ?_ GE167.out) | exact HB.out)⟩
          ·replace c29 := Bool.eq_false_iff.mpr c29
           subst c29
           have H1 : (if ((rd_T41 l1 x20_1).f1) = true then ((value_None.f ((rd_T36 l0_1 x20_1).f1.f0) ((rd_T36 l0_1 x20_1).f1.f1)).bind fun bt168 => (if x6_1.length < 2932031007402 then (schema_Fit.l0 kj9 (x6_1 ++ [(⟨(⟨bt168.1, bt168.2.1⟩ : S34), bt168.2.2.1, bt168.2.2.2.1, bt168.2.2.2.2⟩ : S41)]) l1 (l1.length : Int) (wrap64 (x20_1 + 1)) a0_0 l0_1) else (none))) else ((value_Alike.f ((rd_T41 l1 x20_1).f0.f0) ((rd_T41 l1 x20_1).f0.f1) ((rd_T36 l0_1 x20_1).f1.f0) ((rd_T36 l0_1 x20_1).f1.f1)).bind fun t176 => (if t176 = true then ((value_Cast.f kj9 ((rd_T41 l1 x20_1).f0.f0) ((rd_T41 l1 x20_1).f0.f1) ((rd_T41 l1 x20_1).f1) ((rd_T41 l1 x20_1).f2) ((rd_T41 l1 x20_1).f3) ((rd_T36 l0_1 x20_1).f1.f0) ((rd_T36 l0_1 x20_1).f1.f1)).bind fun bt177 => (if bt177.2.2.2.2.2 = 0 then (if x6_1.length < 2932031007402 then (schema_Fit.l0 kj9 (x6_1 ++ [(⟨(⟨bt177.1, bt177.2.1⟩ : S34), bt177.2.2.1, bt177.2.2.2.1, bt177.2.2.2.2.1⟩ : S41)]) l1 (l1.length : Int) (wrap64 (x20_1 + 1)) a0_0 l0_1) else (none)) else (some (([] : List (S41)), bt177.2.2.2.2.2)))) else (some (([] : List (S41)), 21))))) = some (r1, r2) := by rw [if_neg (show ¬ (false = true) by decide)] at H; exact H
           clear H
           have H := H1
           clear H1
           by_cases c30 : ((rd_T41 l1 x20_1).f1) = true
           ·rw [if_pos c30] at H
            have c30b0 : ((rd_T41 l1 x20_1).f1) = true := c30
            clear c30
            replace H := Option.bind_eq_some_iff.mp H
            obtain ⟨⟨t168, t169, t170, t171, t172⟩, A310, H⟩ := H
            replace H : (if x6_1.length < 2932031007402 then (schema_Fit.l0 kj9 (x6_1 ++ [(⟨(⟨t168, t169⟩ : S34), t170, t171, t172⟩ : S41)]) l1 (l1.length : Int) (wrap64 (x20_1 + 1)) a0_0 l0_1) else (none)) = some (r1, r2) := H
            (try rw [c30b0] at A310)
            have A31 := Aside0.mk A310
            clear A310
            by_cases c32 : x6_1.length < 2932031007402
            ·rw [if_pos c32] at H
             have LMc32 := Aside0.mk c32
             clear c32
             obtain ⟨y173, hy173⟩ : ∃ y_ : List (S41), y_ = (x6_1 ++ [(⟨(⟨t168, t169⟩ : S34), t170, t171, t172⟩ : S41)]) := ⟨_, rfl⟩
             replace H : (schema_Fit.l0 kj9 y173 l1 (l1.length : Int) (wrap64 (x20_1 + 1)) a0_0 l0_1) = some (r1, r2) := by first | (rw [hy173]; with_reducible exact H) | (have H2_ := (Option.bind_some _ _).symm.trans H; rw [hy173]; with_reducible exact H2_) | (have H2_ := (Option.bind_some _ _).symm.trans H; with_reducible exact H2_) | with_reducible exact H | (rw [hy173]; exact H) | exact H
             have Ny173 := Aside0.mk hy173
             clear hy173
             have H' := Aside0.mk H
             clear H
             have hnb33 := NB165_163.out
             have hnc33 := NB163_165.out
             have hnb34 := NB165_167.out
             have hnc34 := NB167_165.out
             have hcz35_0 : wc.cell? ⟨gb165, 0, none⟩ = some (.int .i64 ((rd_T41 l1 x20_1).f0.f0)) := (blk_cell BK165.out 0).trans rfl
             have hcz35_1 : wc.cell? ⟨gb165, 1, none⟩ = some (.int .i64 ((rd_T41 l1 x20_1).f0.f1)) := (blk_cell BK165.out 1).trans rfl
             have hcz35_2 : wc.cell? ⟨gb165, 2, none⟩ = some (.bool ((rd_T41 l1 x20_1).f1)) := (blk_cell BK165.out 2).trans rfl
             have hcz35_3 : wc.cell? ⟨gb165, 3, none⟩ = some (.int .i64 ((rd_T41 l1 x20_1).f2)) := (blk_cell BK165.out 3).trans rfl
             have hcz35_4 : wc.cell? ⟨gb165, 4, none⟩ = some (.string ((rd_T41 l1 x20_1).f3)) := (blk_cell BK165.out 4).trans rfl
             have hfz35_0 := blk_frozen BK165.out 0
             have hfz35_1 := blk_frozen BK165.out 1
             have hfz35_2 := blk_frozen BK165.out 2
             have hfz35_3 := blk_frozen BK165.out 3
             have hfz35_4 := blk_frozen BK165.out 4
             have hnb36 := NB167_163.out
             have hnc36 := NB163_167.out
             have hcz37_0 : wc.cell? ⟨gb167, 0, none⟩ = some (.string ((rd_T36 l0_1 x20_1).f0)) := (blk_cell BK167.out 0).trans rfl
             have hcz37_1 : wc.cell? ⟨gb167, 1, none⟩ = some (.int .i64 ((rd_T36 l0_1 x20_1).f1.f0)) := (blk_cell BK167.out 1).trans rfl
             have hcz37_2 : wc.cell? ⟨gb167, 2, none⟩ = some (.int .i64 ((rd_T36 l0_1 x20_1).f1.f1)) := (blk_cell BK167.out 2).trans rfl
             have hcz37_3 : wc.cell? ⟨gb167, 3, none⟩ = some (.bool ((rd_T36 l0_1 x20_1).f2)) := (blk_cell BK167.out 3).trans rfl
             have hfz37_0 := blk_frozen BK167.out 0
             have hfz37_1 := blk_frozen BK167.out 1
             have hfz37_2 := blk_frozen BK167.out 2
             have hfz37_3 := blk_frozen BK167.out 3
             go_wp2_with (first | ((with_reducible refine gate_callee (f := 41) rfl ?_); refine goesL_ (some 43) rfl rfl Tryz.func41 zF4_24 rfl #[.agg #[.int .i64 ((rd_T36 l0_1 x20_1).f1.f0), .int .i64 ((rd_T36 l0_1 x20_1).f1.f1)]] rfl zF4_6 ?_; (with_reducible refine (value_None.calls ((rd_T36 l0_1 x20_1).f1.f0) ((rd_T36 l0_1 x20_1).f1.f1) t168 t169 t170 t171 t172 _ A31.out).mono ?_); rintro e w38 ⟨rfl, hb⟩; refine ⟨_, rfl, ?_⟩; have n0_ := Aside0.mk (Kd.R_below zF4_10 hb); have n1_ := Aside0.mk (blk_below (g := gb163) (o := .cells #[.string a0_0, .slice (some ad166) l0_1.length c0_1] 24 (0, 0)) zF4_5 hb); have n2_ := Aside0.mk (blk_below (g := gb165) (o := .cells #[.int .i64 ((rd_T41 l1 x20_1).f0.f0), .int .i64 ((rd_T41 l1 x20_1).f0.f1), .bool ((rd_T41 l1 x20_1).f1), .int .i64 ((rd_T41 l1 x20_1).f2), .string ((rd_T41 l1 x20_1).f3)] 41 (0, 0)) zF4_7 hb); have n3_ := Aside0.mk (blk_below (g := gb167) (o := .cells #[.string ((rd_T36 l0_1 x20_1).f0), .int .i64 ((rd_T36 l0_1 x20_1).f1.f0), .int .i64 ((rd_T36 l0_1 x20_1).f1.f1), .bool ((rd_T36 l0_1 x20_1).f2)] 36 (0, 0)) zF4_9 hb); have n4_ := Aside0.mk (below_step zF4_1 hb); clear HO_6; clear BK163; clear BK165; clear BK167; clear HB; have HO_6 := n0_; have BK163 := n1_; have BK165 := n2_; have BK167 := n3_; have HB := n4_; clear n0_ n1_ n2_ n3_ n4_; (try clear hb); (try clear hb2); (try clear hk); (try clear hi)) | ((with_reducible refine gate_builtin (b := .append) (xs := #[.tmp 40, .tmp 44]) rfl ?_); at_builtin; refine Kd.R_append k41 (w0 := w) w.heap.size rfl (.tmp 40) (.tmp 44) 25 41 (.agg #[(.int .i64 0), (.int .i64 0), (.bool false), (.int .i64 0), (.string ⟨#[]⟩)]) 48 rfl Tryz.underlying25 info41 rfl (by decide) (by omega) u6 x6_1 (⟨(⟨t168, t169⟩ : S34), t170, t171, t172⟩ : S41) [.int .i64 t168, .int .i64 t169, .bool t170, .int .i64 t171, .string t172] (fun k_ => k_ ≠ gb165) (fun _ => False) rfl rfl ?aP (fun _ hk => hk.elim) ?aF ?aO ?aB ?aS ?aL ?_; (case aP => exact k41_mkM _ _ _ (⟨(⟨t168, t169⟩ : S34), t170, t171, t172⟩ : S41)); (case aB => exact zF4_1); (case aF => exact (fun k_ hk => Kd.freshB (g := gb165) (o := .cells #[.int .i64 ((rd_T41 l1 x20_1).f0.f0), .int .i64 ((rd_T41 l1 x20_1).f0.f1), .bool ((rd_T41 l1 x20_1).f1), .int .i64 ((rd_T41 l1 x20_1).f2), .string ((rd_T41 l1 x20_1).f3)] 41 (0, 0)) zF4_7 k_ hk)); (case aO => exact zF4_10); (case aS => exact (below_size zF4_1)); (case aL => have := LMc32.out; omega); intro v174 w39 ho hb hg hat; rw [← Ny173.out] at ho; have n0_ := Aside0.mk (blk_grown (g := gb163) (o := .cells #[.string a0_0, .slice (some ad166) l0_1.length c0_1] 24 (0, 0)) zF4_5 hg (Kd.R_ne HO_6.out BK163.out (by decide))); have n1_ := Aside0.mk (blk_grown (g := gb165) (o := .cells #[.int .i64 ((rd_T41 l1 x20_1).f0.f0), .int .i64 ((rd_T41 l1 x20_1).f0.f1), .bool ((rd_T41 l1 x20_1).f1), .int .i64 ((rd_T41 l1 x20_1).f2), .string ((rd_T41 l1 x20_1).f3)] 41 (0, 0)) zF4_7 hg (Kd.R_away HO_6.out (fun _ hk => hk))); have n2_ := Aside0.mk (blk_grown (g := gb167) (o := .cells #[.string ((rd_T36 l0_1 x20_1).f0), .int .i64 ((rd_T36 l0_1 x20_1).f1.f0), .int .i64 ((rd_T36 l0_1 x20_1).f1.f1), .bool ((rd_T36 l0_1 x20_1).f2)] 36 (0, 0)) zF4_9 hg (Kd.R_ne HO_6.out BK167.out (by decide))); have n3_ := Aside0.mk (hb); have n4_ := Aside0.mk (ho); clear BK163; clear BK165; clear BK167; clear HB; clear HO_6; have BK163 := n0_; have BK165 := n1_; have BK167 := n2_; have HB := n3_; have HO175 := n4_; clear n0_ n1_ n2_ n3_ n4_; clear ho hb hg hat))
             go_roundg kj9
             case measure => have := HK1.out; have := HJ9.out; omega
             case rel => exact ⟨(y173), (wrap64 (x20_1 + 1)), zF4_11, H', ⟨by have := HK1.out; have := HJ9.out; omega⟩, ⟨by (with_reducible repeat (first | apply Kd.R_alloc | apply Kd.R_drewN | apply Kd.R_drew)); exact Kd.R_mono HO175.out (fun _ hk => trivial)⟩, ⟨by (with_reducible repeat (first | refine blk_drewN ?_ _ | refine blk_drew ?_ | refine blk_alloc ?_ _)); exact BK163.out⟩, ⟨by repeat (first | (with_reducible first | exact HB.out | apply below_alloc | apply pw_below_drewN | apply below_drew1 | refine below_set ?_ GE163.out | refine below_set ?_ GE165.out | refine below_set ?_ GE167.out) | exact HB.out)⟩⟩
            ·rw [if_neg c32] at H
             exact absurd H (by simp)
           ·rw [if_neg c30] at H
            have c30b0 : ((rd_T41 l1 x20_1).f1) = false := by simpa using c30
            clear c30
            replace H := Option.bind_eq_some_iff.mp H
            obtain ⟨t176, A400, H⟩ := H
            replace H : (if t176 = true then ((value_Cast.f kj9 ((rd_T41 l1 x20_1).f0.f0) ((rd_T41 l1 x20_1).f0.f1) ((rd_T41 l1 x20_1).f1) ((rd_T41 l1 x20_1).f2) ((rd_T41 l1 x20_1).f3) ((rd_T36 l0_1 x20_1).f1.f0) ((rd_T36 l0_1 x20_1).f1.f1)).bind fun bt177 => (if bt177.2.2.2.2.2 = 0 then (if x6_1.length < 2932031007402 then (schema_Fit.l0 kj9 (x6_1 ++ [(⟨(⟨bt177.1, bt177.2.1⟩ : S34), bt177.2.2.1, bt177.2.2.2.1, bt177.2.2.2.2.1⟩ : S41)]) l1 (l1.length : Int) (wrap64 (x20_1 + 1)) a0_0 l0_1) else (none)) else (some (([] : List (S41)), bt177.2.2.2.2.2)))) else (some (([] : List (S41)), 21))) = some (r1, r2) := H
            (try rw [c30b0] at A400)
            have A40 := Aside0.mk A400
            clear A400
            by_cases c41 : t176 = true
            ·subst c41
             have H1 : ((value_Cast.f kj9 ((rd_T41 l1 x20_1).f0.f0) ((rd_T41 l1 x20_1).f0.f1) ((rd_T41 l1 x20_1).f1) ((rd_T41 l1 x20_1).f2) ((rd_T41 l1 x20_1).f3) ((rd_T36 l0_1 x20_1).f1.f0) ((rd_T36 l0_1 x20_1).f1.f1)).bind fun bt177 => (if bt177.2.2.2.2.2 = 0 then (if x6_1.length < 2932031007402 then (schema_Fit.l0 kj9 (x6_1 ++ [(⟨(⟨bt177.1, bt177.2.1⟩ : S34), bt177.2.2.1, bt177.2.2.2.1, bt177.2.2.2.2.1⟩ : S41)]) l1 (l1.length : Int) (wrap64 (x20_1 + 1)) a0_0 l0_1) else (none)) else (some (([] : List (S41)), bt177.2.2.2.2.2)))) = some (r1, r2) := by rw [if_pos rfl] at H; exact H
             clear H
             have H := H1
             clear H1
             replace H := Option.bind_eq_some_iff.mp H
             obtain ⟨⟨t177, t178, t179, t180, t181, t182⟩, A420, H⟩ := H
             replace H : (if t182 = 0 then (if x6_1.length < 2932031007402 then (schema_Fit.l0 kj9 (x6_1 ++ [(⟨(⟨t177, t178⟩ : S34), t179, t180, t181⟩ : S41)]) l1 (l1.length : Int) (wrap64 (x20_1 + 1)) a0_0 l0_1) else (none)) else (some (([] : List (S41)), t182))) = some (r1, r2) := H
             (try rw [c30b0] at A420)
             have A42 := Aside0.mk A420
             clear A420
             by_cases c43 : t182 = 0
             ·rw [if_pos c43] at H
              have c43b0 : (t182 == 0) = true := beq_iff_eq.mpr c43
              have c43b1 : (t182 != 0) = false := bne_eq_false_iff_eq.mpr c43
              clear c43
              by_cases c44 : x6_1.length < 2932031007402
              ·rw [if_pos c44] at H
               have LMc44 := Aside0.mk c44
               clear c44
               obtain ⟨y184, hy184⟩ : ∃ y_ : List (S41), y_ = (x6_1 ++ [(⟨(⟨t177, t178⟩ : S34), t179, t180, t181⟩ : S41)]) := ⟨_, rfl⟩
               replace H : (schema_Fit.l0 kj9 y184 l1 (l1.length : Int) (wrap64 (x20_1 + 1)) a0_0 l0_1) = some (r1, r2) := by first | (rw [hy184]; with_reducible exact H) | (have H2_ := (Option.bind_some _ _).symm.trans H; rw [hy184]; with_reducible exact H2_) | (have H2_ := (Option.bind_some _ _).symm.trans H; with_reducible exact H2_) | with_reducible exact H | (rw [hy184]; exact H) | exact H
               have Ny184 := Aside0.mk hy184
               clear hy184
               have H' := Aside0.mk H
               clear H
               have hnb45 := NB165_163.out
               have hnc45 := NB163_165.out
               have hnb46 := NB165_167.out
               have hnc46 := NB167_165.out
               have hcz47_0 : wc.cell? ⟨gb165, 0, none⟩ = some (.int .i64 ((rd_T41 l1 x20_1).f0.f0)) := (blk_cell BK165.out 0).trans rfl
               have hcz47_1 : wc.cell? ⟨gb165, 1, none⟩ = some (.int .i64 ((rd_T41 l1 x20_1).f0.f1)) := (blk_cell BK165.out 1).trans rfl
               have hcz47_2 : wc.cell? ⟨gb165, 2, none⟩ = some (.bool ((rd_T41 l1 x20_1).f1)) := (blk_cell BK165.out 2).trans rfl
               have hcz47_3 : wc.cell? ⟨gb165, 3, none⟩ = some (.int .i64 ((rd_T41 l1 x20_1).f2)) := (blk_cell BK165.out 3).trans rfl
               have hcz47_4 : wc.cell? ⟨gb165, 4, none⟩ = some (.string ((rd_T41 l1 x20_1).f3)) := (blk_cell BK165.out 4).trans rfl
               have hfz47_0 := blk_frozen BK165.out 0
               have hfz47_1 := blk_frozen BK165.out 1
               have hfz47_2 := blk_frozen BK165.out 2
               have hfz47_3 := blk_frozen BK165.out 3
               have hfz47_4 := blk_frozen BK165.out 4
               have hnb48 := NB167_163.out
               have hnc48 := NB163_167.out
               have hcz49_0 : wc.cell? ⟨gb167, 0, none⟩ = some (.string ((rd_T36 l0_1 x20_1).f0)) := (blk_cell BK167.out 0).trans rfl
               have hcz49_1 : wc.cell? ⟨gb167, 1, none⟩ = some (.int .i64 ((rd_T36 l0_1 x20_1).f1.f0)) := (blk_cell BK167.out 1).trans rfl
               have hcz49_2 : wc.cell? ⟨gb167, 2, none⟩ = some (.int .i64 ((rd_T36 l0_1 x20_1).f1.f1)) := (blk_cell BK167.out 2).trans rfl
               have hcz49_3 : wc.cell? ⟨gb167, 3, none⟩ = some (.bool ((rd_T36 l0_1 x20_1).f2)) := (blk_cell BK167.out 3).trans rfl
               have hfz49_0 := blk_frozen BK167.out 0
               have hfz49_1 := blk_frozen BK167.out 1
               have hfz49_2 := blk_frozen BK167.out 2
               have hfz49_3 := blk_frozen BK167.out 3
               go_wp2_with (first | ((with_reducible refine gate_callee (f := 42) rfl ?_); refine goesL_ (some 51) rfl rfl Tryz.func42 zF4_24 rfl #[.agg #[.int .i64 ((rd_T41 l1 x20_1).f0.f0), .int .i64 ((rd_T41 l1 x20_1).f0.f1)], .agg #[.int .i64 ((rd_T36 l0_1 x20_1).f1.f0), .int .i64 ((rd_T36 l0_1 x20_1).f1.f1)]] rfl zF4_6 ?_; (with_reducible refine (value_Alike.calls ((rd_T41 l1 x20_1).f0.f0) ((rd_T41 l1 x20_1).f0.f1) ((rd_T36 l0_1 x20_1).f1.f0) ((rd_T36 l0_1 x20_1).f1.f1) true _ A40.out).mono ?_); rintro e w50 ⟨rfl, hb⟩; refine ⟨_, rfl, ?_⟩; have n0_ := Aside0.mk (Kd.R_below zF4_10 hb); have n1_ := Aside0.mk (blk_below (g := gb163) (o := .cells #[.string a0_0, .slice (some ad166) l0_1.length c0_1] 24 (0, 0)) zF4_5 hb); have n2_ := Aside0.mk (blk_below (g := gb165) (o := .cells #[.int .i64 ((rd_T41 l1 x20_1).f0.f0), .int .i64 ((rd_T41 l1 x20_1).f0.f1), .bool ((rd_T41 l1 x20_1).f1), .int .i64 ((rd_T41 l1 x20_1).f2), .string ((rd_T41 l1 x20_1).f3)] 41 (0, 0)) zF4_7 hb); have n3_ := Aside0.mk (blk_below (g := gb167) (o := .cells #[.string ((rd_T36 l0_1 x20_1).f0), .int .i64 ((rd_T36 l0_1 x20_1).f1.f0), .int .i64 ((rd_T36 l0_1 x20_1).f1.f1), .bool ((rd_T36 l0_1 x20_1).f2)] 36 (0, 0)) zF4_9 hb); have n4_ := Aside0.mk (below_step zF4_1 hb); clear HO_6; clear BK163; clear BK165; clear BK167; clear HB; have HO_6 := n0_; have BK163 := n1_; have BK165 := n2_; have BK167 := n3_; have HB := n4_; clear n0_ n1_ n2_ n3_ n4_; (try clear hb); (try clear hb2); (try clear hk); (try clear hi); have hcz51_0 : w50.cell? ⟨gb165, 0, none⟩ = some (.int .i64 ((rd_T41 l1 x20_1).f0.f0)) := (blk_cell BK165.out 0).trans rfl; have hcz51_1 : w50.cell? ⟨gb165, 1, none⟩ = some (.int .i64 ((rd_T41 l1 x20_1).f0.f1)) := (blk_cell BK165.out 1).trans rfl; have hcz51_2 : w50.cell? ⟨gb165, 2, none⟩ = some (.bool ((rd_T41 l1 x20_1).f1)) := (blk_cell BK165.out 2).trans rfl; have hcz51_3 : w50.cell? ⟨gb165, 3, none⟩ = some (.int .i64 ((rd_T41 l1 x20_1).f2)) := (blk_cell BK165.out 3).trans rfl; have hcz51_4 : w50.cell? ⟨gb165, 4, none⟩ = some (.string ((rd_T41 l1 x20_1).f3)) := (blk_cell BK165.out 4).trans rfl; have hfz51_0 := blk_frozen BK165.out 0; have hfz51_1 := blk_frozen BK165.out 1; have hfz51_2 := blk_frozen BK165.out 2; have hfz51_3 := blk_frozen BK165.out 3; have hfz51_4 := blk_frozen BK165.out 4; have hcz52_0 : w50.cell? ⟨gb167, 0, none⟩ = some (.string ((rd_T36 l0_1 x20_1).f0)) := (blk_cell BK167.out 0).trans rfl; have hcz52_1 : w50.cell? ⟨gb167, 1, none⟩ = some (.int .i64 ((rd_T36 l0_1 x20_1).f1.f0)) := (blk_cell BK167.out 1).trans rfl; have hcz52_2 : w50.cell? ⟨gb167, 2, none⟩ = some (.int .i64 ((rd_T36 l0_1 x20_1).f1.f1)) := (blk_cell BK167.out 2).trans rfl; have hcz52_3 : w50.cell? ⟨gb167, 3, none⟩ = some (.bool ((rd_T36 l0_1 x20_1).f2)) := (blk_cell BK167.out 3).trans rfl; have hfz52_0 := blk_frozen BK167.out 0; have hfz52_1 := blk_frozen BK167.out 1; have hfz52_2 := blk_frozen BK167.out 2; have hfz52_3 := blk_frozen BK167.out 3) | ((with_reducible refine gate_callee (f := 43) rfl ?_); refine goesL_ (some 57) rfl rfl Tryz.func43 zF4_24 rfl #[.agg #[.int .i64 ((rd_T41 l1 x20_1).f0.f0), .int .i64 ((rd_T41 l1 x20_1).f0.f1), .bool false, .int .i64 ((rd_T41 l1 x20_1).f2), .string ((rd_T41 l1 x20_1).f3)], .agg #[.int .i64 ((rd_T36 l0_1 x20_1).f1.f0), .int .i64 ((rd_T36 l0_1 x20_1).f1.f1)]] rfl zF4_6 ?_; (with_reducible refine (value_Cast.calls kj9 ((rd_T41 l1 x20_1).f0.f0) ((rd_T41 l1 x20_1).f0.f1) false ((rd_T41 l1 x20_1).f2) ((rd_T41 l1 x20_1).f3) ((rd_T36 l0_1 x20_1).f1.f0) ((rd_T36 l0_1 x20_1).f1.f1) t177 t178 t179 t180 t181 t182 _ A42.out).mono ?_); rintro e w53 ⟨rfl, hb⟩; refine ⟨_, rfl, ?_⟩; have n0_ := Aside0.mk (Kd.R_below zF4_10 hb); have n1_ := Aside0.mk (blk_below (g := gb163) (o := .cells #[.string a0_0, .slice (some ad166) l0_1.length c0_1] 24 (0, 0)) zF4_5 hb); have n2_ := Aside0.mk (blk_below (g := gb165) (o := .cells #[.int .i64 ((rd_T41 l1 x20_1).f0.f0), .int .i64 ((rd_T41 l1 x20_1).f0.f1), .bool ((rd_T41 l1 x20_1).f1), .int .i64 ((rd_T41 l1 x20_1).f2), .string ((rd_T41 l1 x20_1).f3)] 41 (0, 0)) zF4_7 hb); have n3_ := Aside0.mk (blk_below (g := gb167) (o := .cells #[.string ((rd_T36 l0_1 x20_1).f0), .int .i64 ((rd_T36 l0_1 x20_1).f1.f0), .int .i64 ((rd_T36 l0_1 x20_1).f1.f1), .bool ((rd_T36 l0_1 x20_1).f2)] 36 (0, 0)) zF4_9 hb); have n4_ := Aside0.mk (below_step zF4_1 hb); clear HO_6; clear BK163; clear BK165; clear BK167; clear HB; have HO_6 := n0_; have BK163 := n1_; have BK165 := n2_; have BK167 := n3_; have HB := n4_; clear n0_ n1_ n2_ n3_ n4_; (try clear hb); (try clear hb2); (try clear hk); (try clear hi)) | ((with_reducible refine gate_dst (N := 10) rfl ?_); refine box_event ?hg (N := 10) ?hd (cs := #[.int .i64 0, .int .i64 0, .bool false, .int .i64 0, .string (⟨#[]⟩ : ByteArray)]) (t := 41) ?hr ?_; (case hd => rfl); (case hg => rfl); (case hr => first | (go_simp; done) | (go_simp; rfl)); intro gb183 hg w54 hbox hb; have n0_ := Aside0.mk (Kd.R_below (Kd.R_elderB zF4_10 gb183 (Nat.le_of_eq hg.symm)) hb); have n1_ := Aside0.mk (blk_below (g := gb163) (o := .cells #[.string a0_0, .slice (some ad166) l0_1.length c0_1] 24 (0, 0)) zF4_5 hb); have n2_ := Aside0.mk (blk_below (g := gb165) (o := .cells #[.int .i64 ((rd_T41 l1 x20_1).f0.f0), .int .i64 ((rd_T41 l1 x20_1).f0.f1), .bool ((rd_T41 l1 x20_1).f1), .int .i64 ((rd_T41 l1 x20_1).f2), .string ((rd_T41 l1 x20_1).f3)] 41 (0, 0)) zF4_7 hb); have n3_ := Aside0.mk (blk_below (g := gb167) (o := .cells #[.string ((rd_T36 l0_1 x20_1).f0), .int .i64 ((rd_T36 l0_1 x20_1).f1.f0), .int .i64 ((rd_T36 l0_1 x20_1).f1.f1), .bool ((rd_T36 l0_1 x20_1).f2)] 36 (0, 0)) zF4_9 hb); have n4_ := Aside0.mk (below_step zF4_1 hb); have n5_ := Aside0.mk (hbox); have n6_ := Aside0.mk ((zF4_33 : w.heap.size ≤ gb183)); have n7_ := Aside0.mk ((zF4_33 : w.heap.size ≤ gb183)); have n8_ := Aside0.mk ((zF4_31 : gb163 ≠ gb183)); have n9_ := Aside0.mk ((zF4_32 : gb183 ≠ gb163)); have n10_ := Aside0.mk ((zF4_26 : gb165 ≠ gb183)); have n11_ := Aside0.mk ((zF4_27 : gb183 ≠ gb165)); have n12_ := Aside0.mk ((zF4_28 : gb167 ≠ gb183)); have n13_ := Aside0.mk ((zF4_29 : gb183 ≠ gb167)); clear HO_6; clear BK163; clear BK165; clear BK167; clear HB; have HO_6 := n0_; have BK163 := n1_; have BK165 := n2_; have BK167 := n3_; have HB := n4_; have BK183 := n5_; have GW183 := n6_; have GE183 := n7_; have NB163_183 := n8_; have NB183_163 := n9_; have NB165_183 := n10_; have NB183_165 := n11_; have NB167_183 := n12_; have NB183_167 := n13_; clear n0_ n1_ n2_ n3_ n4_ n5_ n6_ n7_ n8_ n9_ n10_ n11_ n12_ n13_; clear hb hbox hg; have hnb55 := NB183_163.out; have hnc55 := NB163_183.out; have hnb56 := NB183_165.out; have hnc56 := NB165_183.out; have hnb57 := NB183_167.out; have hnc57 := NB167_183.out; have hcz58_0 : w54.cell? ⟨gb183, 0, none⟩ = some (.int .i64 0) := (blk_cell BK183.out 0).trans rfl; have hcz58_1 : w54.cell? ⟨gb183, 1, none⟩ = some (.int .i64 0) := (blk_cell BK183.out 1).trans rfl; have hcz58_2 : w54.cell? ⟨gb183, 2, none⟩ = some (.bool false) := (blk_cell BK183.out 2).trans rfl; have hcz58_3 : w54.cell? ⟨gb183, 3, none⟩ = some (.int .i64 0) := (blk_cell BK183.out 3).trans rfl; have hcz58_4 : w54.cell? ⟨gb183, 4, none⟩ = some (.string (⟨#[]⟩ : ByteArray)) := (blk_cell BK183.out 4).trans rfl; have hfz58_0 := blk_frozen BK183.out 0; have hfz58_1 := blk_frozen BK183.out 1; have hfz58_2 := blk_frozen BK183.out 2; have hfz58_3 := blk_frozen BK183.out 3; have hfz58_4 := blk_frozen BK183.out 4) | ((with_reducible refine gate_builtin (b := .append) (xs := #[.tmp 63, .tmp 65]) rfl ?_); at_builtin; refine Kd.R_append k41 (w0 := w) w.heap.size rfl (.tmp 63) (.tmp 65) 25 41 (.agg #[(.int .i64 0), (.int .i64 0), (.bool false), (.int .i64 0), (.string ⟨#[]⟩)]) 48 rfl Tryz.underlying25 info41 rfl (by decide) (by omega) u6 x6_1 (⟨(⟨t177, t178⟩ : S34), t179, t180, t181⟩ : S41) [.int .i64 t177, .int .i64 t178, .bool t179, .int .i64 t180, .string t181] (fun k_ => k_ ≠ gb165 ∧ k_ ≠ gb183) (fun _ => False) rfl (by first | (go_simp; done) | (go_simp; rfl)) ?aP (fun _ hk => hk.elim) ?aF ?aO ?aB ?aS ?aL ?_; (case aP => exact k41_mkM _ _ _ (⟨(⟨t177, t178⟩ : S34), t179, t180, t181⟩ : S41)); (case aB => exact zF4_13); (case aF => exact (fun k_ hk => ⟨Kd.freshB (g := gb165) (o := .cells #[.int .i64 ((rd_T41 l1 x20_1).f0.f0), .int .i64 ((rd_T41 l1 x20_1).f0.f1), .bool ((rd_T41 l1 x20_1).f1), .int .i64 ((rd_T41 l1 x20_1).f2), .string ((rd_T41 l1 x20_1).f3)] 41 (0, 0)) zF4_8 k_ hk, Kd.freshB (g := gb183) (o := .cells #[.int .i64 t177, .int .i64 t178, .bool t179, .int .i64 t180, .string t181] 41 (0, 0)) zF4_2 k_ hk⟩)); (case aO => exact (by (with_reducible repeat (first | apply Kd.R_alloc | apply Kd.R_drewN | apply Kd.R_drew)); exact Kd.R_mono (Kd.R_far (p := ⟨gb183, 4, none⟩) (Kd.R_far (p := ⟨gb183, 3, none⟩) (Kd.R_far (p := ⟨gb183, 2, none⟩) (Kd.R_far (p := ⟨gb183, 1, none⟩) (Kd.R_far (p := ⟨gb183, 0, none⟩) (Kd.R_mono HO_6.out (fun k_ hk => (⟨hk, hk.2⟩ : _ ∧ k_ ≠ gb183))) (fun _ hk => hk.2) (.int .i64 t177)) (fun _ hk => hk.2) (.int .i64 t178)) (fun _ hk => hk.2) (.bool t179)) (fun _ hk => hk.2) (.int .i64 t180)) (fun _ hk => hk.2) (.string t181)) (fun _ hk => ⟨hk.1.1, hk.1.2⟩))); (case aS => exact (below_size zF4_13)); (case aL => have := LMc44.out; omega); intro v185 w59 ho hb hg hat; rw [← Ny184.out] at ho; have n0_ := Aside0.mk (blk_grown (g := gb163) (o := .cells #[.string a0_0, .slice (some ad166) l0_1.length c0_1] 24 (0, 0)) (by (with_reducible repeat (first | refine blk_drewN ?_ _ | refine blk_drew ?_ | refine blk_alloc ?_ _)); refine blk_far ?_ NB163_183.out _; (with_reducible repeat (first | refine blk_drewN ?_ _ | refine blk_drew ?_ | refine blk_alloc ?_ _)); refine blk_far ?_ NB163_183.out _; (with_reducible repeat (first | refine blk_drewN ?_ _ | refine blk_drew ?_ | refine blk_alloc ?_ _)); refine blk_far ?_ NB163_183.out _; (with_reducible repeat (first | refine blk_drewN ?_ _ | refine blk_drew ?_ | refine blk_alloc ?_ _)); refine blk_far ?_ NB163_183.out _; (with_reducible repeat (first | refine blk_drewN ?_ _ | refine blk_drew ?_ | refine blk_alloc ?_ _)); refine blk_far ?_ NB163_183.out _; (with_reducible repeat (first | refine blk_drewN ?_ _ | refine blk_drew ?_ | refine blk_alloc ?_ _)); exact BK163.out) hg (Kd.R_ne HO_6.out BK163.out (by decide))); have n1_ := Aside0.mk (blk_grown (g := gb165) (o := .cells #[.int .i64 ((rd_T41 l1 x20_1).f0.f0), .int .i64 ((rd_T41 l1 x20_1).f0.f1), .bool ((rd_T41 l1 x20_1).f1), .int .i64 ((rd_T41 l1 x20_1).f2), .string ((rd_T41 l1 x20_1).f3)] 41 (0, 0)) zF4_8 hg (Kd.R_away HO_6.out (fun _ hk => hk.1))); have n2_ := Aside0.mk (blk_grown (g := gb167) (o := .cells #[.string ((rd_T36 l0_1 x20_1).f0), .int .i64 ((rd_T36 l0_1 x20_1).f1.f0), .int .i64 ((rd_T36 l0_1 x20_1).f1.f1), .bool ((rd_T36 l0_1 x20_1).f2)] 36 (0, 0)) (by (with_reducible repeat (first | refine blk_drewN ?_ _ | refine blk_drew ?_ | refine blk_alloc ?_ _)); refine blk_far ?_ NB167_183.out _; (with_reducible repeat (first | refine blk_drewN ?_ _ | refine blk_drew ?_ | refine blk_alloc ?_ _)); refine blk_far ?_ NB167_183.out _; (with_reducible repeat (first | refine blk_drewN ?_ _ | refine blk_drew ?_ | refine blk_alloc ?_ _)); refine blk_far ?_ NB167_183.out _; (with_reducible repeat (first | refine blk_drewN ?_ _ | refine blk_drew ?_ | refine blk_alloc ?_ _)); refine blk_far ?_ NB167_183.out _; (with_reducible repeat (first | refine blk_drewN ?_ _ | refine blk_drew ?_ | refine blk_alloc ?_ _)); refine blk_far ?_ NB167_183.out _; (with_reducible repeat (first | refine blk_drewN ?_ _ | refine blk_drew ?_ | refine blk_alloc ?_ _)); exact BK167.out) hg (Kd.R_ne HO_6.out BK167.out (by decide))); have n3_ := Aside0.mk (blk_grown (g := gb183) (o := .cells #[.int .i64 t177, .int .i64 t178, .bool t179, .int .i64 t180, .string t181] 41 (0, 0)) zF4_2 hg (Kd.R_away HO_6.out (fun _ hk => hk.2))); have n4_ := Aside0.mk (hb); have n5_ := Aside0.mk (ho); clear BK163; clear BK165; clear BK167; clear BK183; clear HB; clear HO_6; have BK163 := n0_; have BK165 := n1_; have BK167 := n2_; have BK183 := n3_; have HB := n4_; have HO186 := n5_; clear n0_ n1_ n2_ n3_ n4_ n5_; clear ho hb hg hat))
               go_roundg kj9
               case measure => have := HK1.out; have := HJ9.out; omega
               case rel => exact ⟨(y184), (wrap64 (x20_1 + 1)), zF4_11, H', ⟨by have := HK1.out; have := HJ9.out; omega⟩, ⟨by (with_reducible repeat (first | apply Kd.R_alloc | apply Kd.R_drewN | apply Kd.R_drew)); exact Kd.R_mono HO186.out (fun _ hk => trivial)⟩, ⟨by (with_reducible repeat (first | refine blk_drewN ?_ _ | refine blk_drew ?_ | refine blk_alloc ?_ _)); exact BK163.out⟩, ⟨by repeat (first | (with_reducible first | exact HB.out | apply below_alloc | apply pw_below_drewN | apply below_drew1 | refine below_set ?_ GE163.out | refine below_set ?_ GE165.out | refine below_set ?_ GE167.out | refine below_set ?_ GE183.out) | exact HB.out)⟩⟩
              ·rw [if_neg c44] at H
               exact absurd H (by simp)
             ·rw [if_neg c43] at H
              have c43b0 : (t182 == 0) = false := beq_eq_false_iff_ne.mpr c43
              have c43b1 : (t182 != 0) = true := bne_iff_ne.mpr c43
              simp only [Option.some.injEq, Prod.mk.injEq] at H
              obtain ⟨rfl, rfl⟩ := H
              have hnb60 := NB165_163.out
              have hnc60 := NB163_165.out
              have hnb61 := NB165_167.out
              have hnc61 := NB167_165.out
              have hcz62_0 : wc.cell? ⟨gb165, 0, none⟩ = some (.int .i64 ((rd_T41 l1 x20_1).f0.f0)) := (blk_cell BK165.out 0).trans rfl
              have hcz62_1 : wc.cell? ⟨gb165, 1, none⟩ = some (.int .i64 ((rd_T41 l1 x20_1).f0.f1)) := (blk_cell BK165.out 1).trans rfl
              have hcz62_2 : wc.cell? ⟨gb165, 2, none⟩ = some (.bool ((rd_T41 l1 x20_1).f1)) := (blk_cell BK165.out 2).trans rfl
              have hcz62_3 : wc.cell? ⟨gb165, 3, none⟩ = some (.int .i64 ((rd_T41 l1 x20_1).f2)) := (blk_cell BK165.out 3).trans rfl
              have hcz62_4 : wc.cell? ⟨gb165, 4, none⟩ = some (.string ((rd_T41 l1 x20_1).f3)) := (blk_cell BK165.out 4).trans rfl
              have hfz62_0 := blk_frozen BK165.out 0
              have hfz62_1 := blk_frozen BK165.out 1
              have hfz62_2 := blk_frozen BK165.out 2
              have hfz62_3 := blk_frozen BK165.out 3
              have hfz62_4 := blk_frozen BK165.out 4
              have hnb63 := NB167_163.out
              have hnc63 := NB163_167.out
              have hcz64_0 : wc.cell? ⟨gb167, 0, none⟩ = some (.string ((rd_T36 l0_1 x20_1).f0)) := (blk_cell BK167.out 0).trans rfl
              have hcz64_1 : wc.cell? ⟨gb167, 1, none⟩ = some (.int .i64 ((rd_T36 l0_1 x20_1).f1.f0)) := (blk_cell BK167.out 1).trans rfl
              have hcz64_2 : wc.cell? ⟨gb167, 2, none⟩ = some (.int .i64 ((rd_T36 l0_1 x20_1).f1.f1)) := (blk_cell BK167.out 2).trans rfl
              have hcz64_3 : wc.cell? ⟨gb167, 3, none⟩ = some (.bool ((rd_T36 l0_1 x20_1).f2)) := (blk_cell BK167.out 3).trans rfl
              have hfz64_0 := blk_frozen BK167.out 0
              have hfz64_1 := blk_frozen BK167.out 1
              have hfz64_2 := blk_frozen BK167.out 2
              have hfz64_3 := blk_frozen BK167.out 3
              go_wp2_with (first | ((with_reducible refine gate_callee (f := 42) rfl ?_); refine goesL_ (some 51) rfl rfl Tryz.func42 zF4_24 rfl #[.agg #[.int .i64 ((rd_T41 l1 x20_1).f0.f0), .int .i64 ((rd_T41 l1 x20_1).f0.f1)], .agg #[.int .i64 ((rd_T36 l0_1 x20_1).f1.f0), .int .i64 ((rd_T36 l0_1 x20_1).f1.f1)]] rfl zF4_6 ?_; (with_reducible refine (value_Alike.calls ((rd_T41 l1 x20_1).f0.f0) ((rd_T41 l1 x20_1).f0.f1) ((rd_T36 l0_1 x20_1).f1.f0) ((rd_T36 l0_1 x20_1).f1.f1) true _ A40.out).mono ?_); rintro e w65 ⟨rfl, hb⟩; refine ⟨_, rfl, ?_⟩; have n0_ := Aside0.mk (Kd.R_below zF4_10 hb); have n1_ := Aside0.mk (blk_below (g := gb163) (o := .cells #[.string a0_0, .slice (some ad166) l0_1.length c0_1] 24 (0, 0)) zF4_5 hb); have n2_ := Aside0.mk (blk_below (g := gb165) (o := .cells #[.int .i64 ((rd_T41 l1 x20_1).f0.f0), .int .i64 ((rd_T41 l1 x20_1).f0.f1), .bool ((rd_T41 l1 x20_1).f1), .int .i64 ((rd_T41 l1 x20_1).f2), .string ((rd_T41 l1 x20_1).f3)] 41 (0, 0)) zF4_7 hb); have n3_ := Aside0.mk (blk_below (g := gb167) (o := .cells #[.string ((rd_T36 l0_1 x20_1).f0), .int .i64 ((rd_T36 l0_1 x20_1).f1.f0), .int .i64 ((rd_T36 l0_1 x20_1).f1.f1), .bool ((rd_T36 l0_1 x20_1).f2)] 36 (0, 0)) zF4_9 hb); have n4_ := Aside0.mk (below_step zF4_1 hb); clear HO_6; clear BK163; clear BK165; clear BK167; clear HB; have HO_6 := n0_; have BK163 := n1_; have BK165 := n2_; have BK167 := n3_; have HB := n4_; clear n0_ n1_ n2_ n3_ n4_; (try clear hb); (try clear hb2); (try clear hk); (try clear hi); have hcz66_0 : w65.cell? ⟨gb165, 0, none⟩ = some (.int .i64 ((rd_T41 l1 x20_1).f0.f0)) := (blk_cell BK165.out 0).trans rfl; have hcz66_1 : w65.cell? ⟨gb165, 1, none⟩ = some (.int .i64 ((rd_T41 l1 x20_1).f0.f1)) := (blk_cell BK165.out 1).trans rfl; have hcz66_2 : w65.cell? ⟨gb165, 2, none⟩ = some (.bool ((rd_T41 l1 x20_1).f1)) := (blk_cell BK165.out 2).trans rfl; have hcz66_3 : w65.cell? ⟨gb165, 3, none⟩ = some (.int .i64 ((rd_T41 l1 x20_1).f2)) := (blk_cell BK165.out 3).trans rfl; have hcz66_4 : w65.cell? ⟨gb165, 4, none⟩ = some (.string ((rd_T41 l1 x20_1).f3)) := (blk_cell BK165.out 4).trans rfl; have hfz66_0 := blk_frozen BK165.out 0; have hfz66_1 := blk_frozen BK165.out 1; have hfz66_2 := blk_frozen BK165.out 2; have hfz66_3 := blk_frozen BK165.out 3; have hfz66_4 := blk_frozen BK165.out 4; have hcz67_0 : w65.cell? ⟨gb167, 0, none⟩ = some (.string ((rd_T36 l0_1 x20_1).f0)) := (blk_cell BK167.out 0).trans rfl; have hcz67_1 : w65.cell? ⟨gb167, 1, none⟩ = some (.int .i64 ((rd_T36 l0_1 x20_1).f1.f0)) := (blk_cell BK167.out 1).trans rfl; have hcz67_2 : w65.cell? ⟨gb167, 2, none⟩ = some (.int .i64 ((rd_T36 l0_1 x20_1).f1.f1)) := (blk_cell BK167.out 2).trans rfl; have hcz67_3 : w65.cell? ⟨gb167, 3, none⟩ = some (.bool ((rd_T36 l0_1 x20_1).f2)) := (blk_cell BK167.out 3).trans rfl; have hfz67_0 := blk_frozen BK167.out 0; have hfz67_1 := blk_frozen BK167.out 1; have hfz67_2 := blk_frozen BK167.out 2; have hfz67_3 := blk_frozen BK167.out 3) | ((with_reducible refine gate_callee (f := 43) rfl ?_); refine goesL_ (some 57) rfl rfl Tryz.func43 zF4_24 rfl #[.agg #[.int .i64 ((rd_T41 l1 x20_1).f0.f0), .int .i64 ((rd_T41 l1 x20_1).f0.f1), .bool false, .int .i64 ((rd_T41 l1 x20_1).f2), .string ((rd_T41 l1 x20_1).f3)], .agg #[.int .i64 ((rd_T36 l0_1 x20_1).f1.f0), .int .i64 ((rd_T36 l0_1 x20_1).f1.f1)]] rfl zF4_6 ?_; (with_reducible refine (value_Cast.calls kj9 ((rd_T41 l1 x20_1).f0.f0) ((rd_T41 l1 x20_1).f0.f1) false ((rd_T41 l1 x20_1).f2) ((rd_T41 l1 x20_1).f3) ((rd_T36 l0_1 x20_1).f1.f0) ((rd_T36 l0_1 x20_1).f1.f1) t177 t178 t179 t180 t181 t182 _ A42.out).mono ?_); rintro e w68 ⟨rfl, hb⟩; refine ⟨_, rfl, ?_⟩; have n0_ := Aside0.mk (Kd.R_below zF4_10 hb); have n1_ := Aside0.mk (blk_below (g := gb163) (o := .cells #[.string a0_0, .slice (some ad166) l0_1.length c0_1] 24 (0, 0)) zF4_5 hb); have n2_ := Aside0.mk (blk_below (g := gb165) (o := .cells #[.int .i64 ((rd_T41 l1 x20_1).f0.f0), .int .i64 ((rd_T41 l1 x20_1).f0.f1), .bool ((rd_T41 l1 x20_1).f1), .int .i64 ((rd_T41 l1 x20_1).f2), .string ((rd_T41 l1 x20_1).f3)] 41 (0, 0)) zF4_7 hb); have n3_ := Aside0.mk (blk_below (g := gb167) (o := .cells #[.string ((rd_T36 l0_1 x20_1).f0), .int .i64 ((rd_T36 l0_1 x20_1).f1.f0), .int .i64 ((rd_T36 l0_1 x20_1).f1.f1), .bool ((rd_T36 l0_1 x20_1).f2)] 36 (0, 0)) zF4_9 hb); have n4_ := Aside0.mk (below_step zF4_1 hb); clear HO_6; clear BK163; clear BK165; clear BK167; clear HB; have HO_6 := n0_; have BK163 := n1_; have BK165 := n2_; have BK167 := n3_; have HB := n4_; clear n0_ n1_ n2_ n3_ n4_; (try clear hb); (try clear hb2); (try clear hk); (try clear hi)) | ((with_reducible refine gate_dst (N := 10) rfl ?_); refine box_event ?hg (N := 10) ?hd (cs := #[.int .i64 0, .int .i64 0, .bool false, .int .i64 0, .string (⟨#[]⟩ : ByteArray)]) (t := 41) ?hr ?_; (case hd => rfl); (case hg => rfl); (case hr => first | (go_simp; done) | (go_simp; rfl)); intro gb183 hg w69 hbox hb; have n0_ := Aside0.mk (Kd.R_below (Kd.R_elderB zF4_10 gb183 (Nat.le_of_eq hg.symm)) hb); have n1_ := Aside0.mk (blk_below (g := gb163) (o := .cells #[.string a0_0, .slice (some ad166) l0_1.length c0_1] 24 (0, 0)) zF4_5 hb); have n2_ := Aside0.mk (blk_below (g := gb165) (o := .cells #[.int .i64 ((rd_T41 l1 x20_1).f0.f0), .int .i64 ((rd_T41 l1 x20_1).f0.f1), .bool ((rd_T41 l1 x20_1).f1), .int .i64 ((rd_T41 l1 x20_1).f2), .string ((rd_T41 l1 x20_1).f3)] 41 (0, 0)) zF4_7 hb); have n3_ := Aside0.mk (blk_below (g := gb167) (o := .cells #[.string ((rd_T36 l0_1 x20_1).f0), .int .i64 ((rd_T36 l0_1 x20_1).f1.f0), .int .i64 ((rd_T36 l0_1 x20_1).f1.f1), .bool ((rd_T36 l0_1 x20_1).f2)] 36 (0, 0)) zF4_9 hb); have n4_ := Aside0.mk (below_step zF4_1 hb); have n5_ := Aside0.mk (hbox); have n6_ := Aside0.mk ((zF4_33 : w.heap.size ≤ gb183)); have n7_ := Aside0.mk ((zF4_33 : w.heap.size ≤ gb183)); have n8_ := Aside0.mk ((zF4_31 : gb163 ≠ gb183)); have n9_ := Aside0.mk ((zF4_32 : gb183 ≠ gb163)); have n10_ := Aside0.mk ((zF4_26 : gb165 ≠ gb183)); have n11_ := Aside0.mk ((zF4_27 : gb183 ≠ gb165)); have n12_ := Aside0.mk ((zF4_28 : gb167 ≠ gb183)); have n13_ := Aside0.mk ((zF4_29 : gb183 ≠ gb167)); clear HO_6; clear BK163; clear BK165; clear BK167; clear HB; have HO_6 := n0_; have BK163 := n1_; have BK165 := n2_; have BK167 := n3_; have HB := n4_; have BK183 := n5_; have GW183 := n6_; have GE183 := n7_; have NB163_183 := n8_; have NB183_163 := n9_; have NB165_183 := n10_; have NB183_165 := n11_; have NB167_183 := n12_; have NB183_167 := n13_; clear n0_ n1_ n2_ n3_ n4_ n5_ n6_ n7_ n8_ n9_ n10_ n11_ n12_ n13_; clear hb hbox hg; have hnb70 := NB183_163.out; have hnc70 := NB163_183.out; have hnb71 := NB183_165.out; have hnc71 := NB165_183.out; have hnb72 := NB183_167.out; have hnc72 := NB167_183.out; have hcz73_0 : w69.cell? ⟨gb183, 0, none⟩ = some (.int .i64 0) := (blk_cell BK183.out 0).trans rfl; have hcz73_1 : w69.cell? ⟨gb183, 1, none⟩ = some (.int .i64 0) := (blk_cell BK183.out 1).trans rfl; have hcz73_2 : w69.cell? ⟨gb183, 2, none⟩ = some (.bool false) := (blk_cell BK183.out 2).trans rfl; have hcz73_3 : w69.cell? ⟨gb183, 3, none⟩ = some (.int .i64 0) := (blk_cell BK183.out 3).trans rfl; have hcz73_4 : w69.cell? ⟨gb183, 4, none⟩ = some (.string (⟨#[]⟩ : ByteArray)) := (blk_cell BK183.out 4).trans rfl; have hfz73_0 := blk_frozen BK183.out 0; have hfz73_1 := blk_frozen BK183.out 1; have hfz73_2 := blk_frozen BK183.out 2; have hfz73_3 := blk_frozen BK183.out 3; have hfz73_4 := blk_frozen BK183.out 4))
              go_ret2
              exact ⟨_, by first | rfl | (simp [errW_none, errW_some] <;> rfl) | (simp [*, errW_none, errW_some] <;> rfl), by first | exact Kd.R_nil _ _ _ _ _ | exact Kd.N_nil _ _ _ _ _ | exact Kd.V_nil _ _ _ _ _ | exact Kd.Q_nil _ _ _ _ _ | exact Kd.S_nil _ _ _ _ _, by repeat (first | (with_reducible first | exact HB.out | apply below_alloc | apply pw_below_drewN | apply below_drew1 | refine below_set ?_ GE163.out | refine below_set ?_ GE165.out | refine below_set ?_ GE167.out | refine below_set ?_ GE183.out) | exact HB.out)⟩
            ·replace c41 := Bool.eq_false_iff.mpr c41
             subst c41
             have H1 : (some (([] : List (S41)), 21)) = some (r1, r2) := by rw [if_neg (show ¬ (false = true) by decide)] at H; exact H
             clear H
             have H := H1
             clear H1
             simp only [Option.some.injEq, Prod.mk.injEq] at H
             obtain ⟨rfl, rfl⟩ := H
             have hnb74 := NB165_163.out
             have hnc74 := NB163_165.out
             have hnb75 := NB165_167.out
             have hnc75 := NB167_165.out
             have hcz76_0 : wc.cell? ⟨gb165, 0, none⟩ = some (.int .i64 ((rd_T41 l1 x20_1).f0.f0)) := (blk_cell BK165.out 0).trans rfl
             have hcz76_1 : wc.cell? ⟨gb165, 1, none⟩ = some (.int .i64 ((rd_T41 l1 x20_1).f0.f1)) := (blk_cell BK165.out 1).trans rfl
             have hcz76_2 : wc.cell? ⟨gb165, 2, none⟩ = some (.bool ((rd_T41 l1 x20_1).f1)) := (blk_cell BK165.out 2).trans rfl
             have hcz76_3 : wc.cell? ⟨gb165, 3, none⟩ = some (.int .i64 ((rd_T41 l1 x20_1).f2)) := (blk_cell BK165.out 3).trans rfl
             have hcz76_4 : wc.cell? ⟨gb165, 4, none⟩ = some (.string ((rd_T41 l1 x20_1).f3)) := (blk_cell BK165.out 4).trans rfl
             have hfz76_0 := blk_frozen BK165.out 0
             have hfz76_1 := blk_frozen BK165.out 1
             have hfz76_2 := blk_frozen BK165.out 2
             have hfz76_3 := blk_frozen BK165.out 3
             have hfz76_4 := blk_frozen BK165.out 4
             have hnb77 := NB167_163.out
             have hnc77 := NB163_167.out
             have hcz78_0 : wc.cell? ⟨gb167, 0, none⟩ = some (.string ((rd_T36 l0_1 x20_1).f0)) := (blk_cell BK167.out 0).trans rfl
             have hcz78_1 : wc.cell? ⟨gb167, 1, none⟩ = some (.int .i64 ((rd_T36 l0_1 x20_1).f1.f0)) := (blk_cell BK167.out 1).trans rfl
             have hcz78_2 : wc.cell? ⟨gb167, 2, none⟩ = some (.int .i64 ((rd_T36 l0_1 x20_1).f1.f1)) := (blk_cell BK167.out 2).trans rfl
             have hcz78_3 : wc.cell? ⟨gb167, 3, none⟩ = some (.bool ((rd_T36 l0_1 x20_1).f2)) := (blk_cell BK167.out 3).trans rfl
             have hfz78_0 := blk_frozen BK167.out 0
             have hfz78_1 := blk_frozen BK167.out 1
             have hfz78_2 := blk_frozen BK167.out 2
             have hfz78_3 := blk_frozen BK167.out 3
             go_wp2_with (first | ((with_reducible refine gate_callee (f := 42) rfl ?_); refine goesL_ (some 51) rfl rfl Tryz.func42 zF4_24 rfl #[.agg #[.int .i64 ((rd_T41 l1 x20_1).f0.f0), .int .i64 ((rd_T41 l1 x20_1).f0.f1)], .agg #[.int .i64 ((rd_T36 l0_1 x20_1).f1.f0), .int .i64 ((rd_T36 l0_1 x20_1).f1.f1)]] rfl zF4_6 ?_; (with_reducible refine (value_Alike.calls ((rd_T41 l1 x20_1).f0.f0) ((rd_T41 l1 x20_1).f0.f1) ((rd_T36 l0_1 x20_1).f1.f0) ((rd_T36 l0_1 x20_1).f1.f1) false _ A40.out).mono ?_); rintro e w79 ⟨rfl, hb⟩; refine ⟨_, rfl, ?_⟩; have n0_ := Aside0.mk (Kd.R_below zF4_10 hb); have n1_ := Aside0.mk (blk_below (g := gb163) (o := .cells #[.string a0_0, .slice (some ad166) l0_1.length c0_1] 24 (0, 0)) zF4_5 hb); have n2_ := Aside0.mk (blk_below (g := gb165) (o := .cells #[.int .i64 ((rd_T41 l1 x20_1).f0.f0), .int .i64 ((rd_T41 l1 x20_1).f0.f1), .bool ((rd_T41 l1 x20_1).f1), .int .i64 ((rd_T41 l1 x20_1).f2), .string ((rd_T41 l1 x20_1).f3)] 41 (0, 0)) zF4_7 hb); have n3_ := Aside0.mk (blk_below (g := gb167) (o := .cells #[.string ((rd_T36 l0_1 x20_1).f0), .int .i64 ((rd_T36 l0_1 x20_1).f1.f0), .int .i64 ((rd_T36 l0_1 x20_1).f1.f1), .bool ((rd_T36 l0_1 x20_1).f2)] 36 (0, 0)) zF4_9 hb); have n4_ := Aside0.mk (below_step zF4_1 hb); clear HO_6; clear BK163; clear BK165; clear BK167; clear HB; have HO_6 := n0_; have BK163 := n1_; have BK165 := n2_; have BK167 := n3_; have HB := n4_; clear n0_ n1_ n2_ n3_ n4_; (try clear hb); (try clear hb2); (try clear hk); (try clear hi)))
             go_ret2
             exact ⟨_, by first | rfl | (simp [errW_none, errW_some] <;> rfl) | (simp [*, errW_none, errW_some] <;> rfl), by first | exact Kd.R_nil _ _ _ _ _ | exact Kd.N_nil _ _ _ _ _ | exact Kd.V_nil _ _ _ _ _ | exact Kd.Q_nil _ _ _ _ _ | exact Kd.S_nil _ _ _ _ _, by repeat (first | (with_reducible first | exact HB.out | apply below_alloc | apply pw_below_drewN | apply below_drew1 | refine below_set ?_ GE163.out | refine below_set ?_ GE165.out | refine below_set ?_ GE167.out) | exact HB.out)⟩
       ·rw [if_neg c9] at H
        exact absurd H (by simp)
      ·rw [if_neg c8] at H
       exact absurd H (by simp)
     ·rw [if_neg c7] at H
      exact absurd H (by simp)
    ·rw [if_neg c6] at H
     have c6b0 : decide (x20_1 < (l1.length : Int)) = false := decide_eq_false c6
     clear c6
     simp only [Option.some.injEq, Prod.mk.injEq] at H
     obtain ⟨rfl, rfl⟩ := H
     go_wp2
     go_ret2
     exact ⟨_, by first | rfl | (simp [errW_none, errW_some] <;> rfl) | (simp [*, errW_none, errW_some] <;> rfl), by (with_reducible repeat (first | apply Kd.R_alloc | apply Kd.R_drewN | apply Kd.R_drew)); exact HO_6.out, by repeat (first | (with_reducible first | exact HB.out | apply below_alloc | apply pw_below_drewN | apply below_drew1 | refine below_set ?_ GE163.out) | exact HB.out)⟩
 ·rw [if_neg c3] at H
  have c3b0 : ((l1.length : Int) == (l0_1.length : Int)) = false := beq_eq_false_iff_ne.mpr c3
  have c3b1 : ((l1.length : Int) != (l0_1.length : Int)) = true := bne_iff_ne.mpr c3
  have c3b2 : (l1.length == l0_1.length) = false := by first | simpa using c3 | (simp at c3 ⊢; omega)
  simp only [Option.some.injEq, Prod.mk.injEq] at H
  obtain ⟨rfl, rfl⟩ := H
  go_wp2
  go_ret2
  exact ⟨_, by first | rfl | (simp [errW_none, errW_some] <;> rfl) | (simp [*, errW_none, errW_some] <;> rfl), by first | exact Kd.R_nil _ _ _ _ _ | exact Kd.N_nil _ _ _ _ _ | exact Kd.V_nil _ _ _ _ _ | exact Kd.Q_nil _ _ _ _ _ | exact Kd.S_nil _ _ _ _ _, by repeat (first | (with_reducible first | exact HB.out | apply below_alloc | apply pw_below_drewN | apply below_drew1 | refine below_set ?_ GE163.out) | exact HB.out)⟩

/-! ### colonnaderef02_None: function 44 -/
def colonnaderef02_None.f (a0_0 : Int) (a0_1 : Int) : Option (Int × Int × Bool × Int × ByteArray) := some (a0_0, a0_1, true, 0, (⟨#[]⟩ : ByteArray))
set_option maxHeartbeats 8000000 in
set_option maxRecDepth 100000 in
theorem colonnaderef02_None.calls (a0_0 : Int) (a0_1 : Int) (r1 : Int) (r2 : Int) (r3 : Bool) (r4 : Int) (r5 : ByteArray) (w : World) (h : colonnaderef02_None.f a0_0 a0_1 = some (r1, r2, r3, r4, r5)) :
  Calls Tryz.prog 44 #[.agg #[.int .i64 a0_0, .int .i64 a0_1]] w fun e w' => e = .returned (.agg #[.int .i64 r1, .int .i64 r2, .bool r3, .int .i64 r4, .string r5]) ∧ Below w.heap.size w w' := by
 have hu34 := Tryz.underlying34
 have hu41 := Tryz.underlying41
 have HB := Aside0.mk (Below.refl w.heap.size w)
 have H : (some (a0_0, a0_1, true, 0, (⟨#[]⟩ : ByteArray))) = some (r1, r2, r3, r4, r5) := h
 clear h
 simp only [Option.some.injEq, Prod.mk.injEq] at H
 obtain ⟨rfl, rfl, rfl, rfl, rfl⟩ := H
 go_enter Tryz.func44, Tryz.ntmps44
 go_wp2_with (first | ((with_reducible refine gate_dst (N := 1) rfl ?_); refine box_event ?hg (N := 1) ?hd (cs := #[.int .i64 a0_0, .int .i64 a0_1]) (t := 34) ?hr ?_; (case hd => rfl); (case hg => rfl); (case hr => first | (go_simp; done) | (go_simp; rfl)); intro gb187 hg w2 hbox hb; have n0_ := Aside0.mk (below_step zF4_4 hb); have n1_ := Aside0.mk (hbox); have n2_ := Aside0.mk ((zF4_30 : w.heap.size ≤ gb187)); have n3_ := Aside0.mk ((zF4_30 : w.heap.size ≤ gb187)); clear HB; have HB := n0_; have BK187 := n1_; have GW187 := n2_; have GE187 := n3_; clear n0_ n1_ n2_ n3_; clear hb hbox hg) | ((with_reducible refine gate_dst (N := 2) rfl ?_); refine box_event ?hg (N := 2) ?hd (cs := #[.int .i64 0, .int .i64 0, .bool false, .int .i64 0, .string (⟨#[]⟩ : ByteArray)]) (t := 41) ?hr ?_; (case hd => rfl); (case hg => rfl); (case hr => first | (go_simp; done) | (go_simp; rfl)); intro gb188 hg w3 hbox hb; have n0_ := Aside0.mk (blk_below (g := gb187) (o := .cells #[.int .i64 a0_0, .int .i64 a0_1] 34 (0, 0)) zF4_22 hb); have n1_ := Aside0.mk (below_step zF4_15 hb); have n2_ := Aside0.mk (hbox); have n3_ := Aside0.mk ((by rw [hg]; exact (below_size zF4_15) : w.heap.size ≤ gb188)); have n4_ := Aside0.mk ((by rw [hg]; exact (below_size zF4_15) : w.heap.size ≤ gb188)); have n5_ := Aside0.mk ((by rw [hg]; exact Nat.ne_of_lt (blk_lt (g := gb187) (o := .cells #[.int .i64 a0_0, .int .i64 a0_1] 34 (0, 0)) zF4_22) : gb187 ≠ gb188)); have n6_ := Aside0.mk ((by rw [hg]; exact Nat.ne_of_gt (blk_lt (g := gb187) (o := .cells #[.int .i64 a0_0, .int .i64 a0_1] 34 (0, 0)) zF4_22) : gb188 ≠ gb187)); clear BK187; clear HB; have BK187 := n0_; have HB := n1_; have BK188 := n2_; have GW188 := n3_; have GE188 := n4_; have NB187_188 := n5_; have NB188_187 := n6_; clear n0_ n1_ n2_ n3_ n4_ n5_ n6_; clear hb hbox hg; have hnb4 := NB187_188.out; have hnc4 := NB188_187.out; have hcz5_0 : w3.cell? ⟨gb187, 0, none⟩ = some (.int .i64 a0_0) := (blk_cell BK187.out 0).trans rfl; have hcz5_1 : w3.cell? ⟨gb187, 1, none⟩ = some (.int .i64 a0_1) := (blk_cell BK187.out 1).trans rfl; have hfz5_0 := blk_frozen BK187.out 0; have hfz5_1 := blk_frozen BK187.out 1; have hcz6_0 : w3.cell? ⟨gb188, 0, none⟩ = some (.int .i64 0) := (blk_cell BK188.out 0).trans rfl; have hcz6_1 : w3.cell? ⟨gb188, 1, none⟩ = some (.int .i64 0) := (blk_cell BK188.out 1).trans rfl; have hcz6_2 : w3.cell? ⟨gb188, 2, none⟩ = some (.bool false) := (blk_cell BK188.out 2).trans rfl; have hcz6_3 : w3.cell? ⟨gb188, 3, none⟩ = some (.int .i64 0) := (blk_cell BK188.out 3).trans rfl; have hcz6_4 : w3.cell? ⟨gb188, 4, none⟩ = some (.string (⟨#[]⟩ : ByteArray)) := (blk_cell BK188.out 4).trans rfl; have hfz6_0 := blk_frozen BK188.out 0; have hfz6_1 := blk_frozen BK188.out 1; have hfz6_2 := blk_frozen BK188.out 2; have hfz6_3 := blk_frozen BK188.out 3; have hfz6_4 := blk_frozen BK188.out 4))
 refine bodyPost_ret (results_cell_row rfl _ _ gb188 41 #[.int .i64 a0_0, .int .i64 a0_1, .bool true, .int .i64 0, .string (⟨#[]⟩ : ByteArray)] (0, 0) _ rfl (by (with_reducible repeat (first | refine blk_drewN ?_ _ | refine blk_drew ?_ | refine blk_alloc ?_ _)); refine blk_put (cs := #[.int .i64 a0_0, .int .i64 a0_1, .bool true, .int .i64 0, .string (⟨#[]⟩ : ByteArray)]) ?_ 4 _ rfl; (with_reducible repeat (first | refine blk_drewN ?_ _ | refine blk_drew ?_ | refine blk_alloc ?_ _)); refine blk_put (cs := #[.int .i64 a0_0, .int .i64 a0_1, .bool true, .int .i64 0, .string (⟨#[]⟩ : ByteArray)]) ?_ 3 _ rfl; (with_reducible repeat (first | refine blk_drewN ?_ _ | refine blk_drew ?_ | refine blk_alloc ?_ _)); refine blk_put (cs := #[.int .i64 a0_0, .int .i64 a0_1, .bool false, .int .i64 0, .string (⟨#[]⟩ : ByteArray)]) ?_ 2 _ rfl; (with_reducible repeat (first | refine blk_drewN ?_ _ | refine blk_drew ?_ | refine blk_alloc ?_ _)); refine blk_put (cs := #[.int .i64 a0_0, .int .i64 0, .bool false, .int .i64 0, .string (⟨#[]⟩ : ByteArray)]) ?_ 1 _ rfl; (with_reducible repeat (first | refine blk_drewN ?_ _ | refine blk_drew ?_ | refine blk_alloc ?_ _)); refine blk_put (cs := #[.int .i64 0, .int .i64 0, .bool false, .int .i64 0, .string (⟨#[]⟩ : ByteArray)]) ?_ 0 _ rfl; (with_reducible repeat (first | refine blk_drewN ?_ _ | refine blk_drew ?_ | refine blk_alloc ?_ _)); exact BK188.out) Tryz.underlying41 rfl zF4_24) rfl ?_
 exact ⟨by first | rfl | (simp [errW_none, errW_some] <;> rfl) | (simp [*, errW_none, errW_some] <;> rfl), by repeat (first | (with_reducible first | exact HB.out | apply below_alloc | apply pw_below_drewN | apply below_drew1 | refine below_set ?_ GE187.out | refine below_set ?_ GE188.out) | exact HB.out)⟩

/-! ### colonnaderef02_family: function 86 -/
def colonnaderef02_family.f (a0 : Int) : Option (Int) := if a0 = 3 then (some 2) else (some a0)
set_option maxHeartbeats 8000000 in
set_option maxRecDepth 100000 in
theorem colonnaderef02_family.calls (a0 : Int) (r : Int) (w : World) (h : colonnaderef02_family.f a0 = some r) :
  Calls Tryz.prog 86 #[.int .i64 a0] w fun e w' => e = .returned (.int .i64 r) ∧ Drawn0 w w' := by
 have H : (if a0 = 3 then (some 2) else (some a0)) = some r := h
 clear h
 by_cases c2 : a0 = 3
 ·rw [if_pos c2] at H
  have c2b0 : (a0 == 3) = true := beq_iff_eq.mpr c2
  have c2b1 : (a0 != 3) = false := bne_eq_false_iff_eq.mpr c2
  clear c2
  obtain rfl := Option.some.inj H
  go_enter Tryz.func86, Tryz.ntmps86
  go_wp2
  go_ret
  exact ⟨by first | rfl | (simp; done) | (simp [*]; done), by repeat (first | exact Drawn0.refl _ | apply Drawn0.step)⟩
 ·rw [if_neg c2] at H
  have c2b0 : (a0 == 3) = false := beq_eq_false_iff_ne.mpr c2
  have c2b1 : (a0 != 3) = true := bne_iff_ne.mpr c2
  obtain rfl := Option.some.inj H
  go_enter Tryz.func86, Tryz.ntmps86
  go_wp2
  go_ret
  exact ⟨by first | rfl | (simp; done) | (simp [*]; done), by repeat (first | exact Drawn0.refl _ | apply Drawn0.step)⟩

/-! ### colonnaderef02_Alike: function 45 -/
def colonnaderef02_Alike.f (a0_0 : Int) (a0_1 : Int) (a1_0 : Int) (a1_1 : Int) : Option (Bool) := (colonnaderef02_family.f a0_0).bind fun t191 => ((colonnaderef02_family.f a1_0).bind fun t192 => (if t191 = t192 then (if a0_0 ≥ 1 then (some (decide (a0_0 ≤ 5))) else (some false)) else (some false)))
set_option maxHeartbeats 8000000 in
set_option maxRecDepth 100000 in
theorem colonnaderef02_Alike.calls (a0_0 : Int) (a0_1 : Int) (a1_0 : Int) (a1_1 : Int) (r : Bool) (w : World) (h : colonnaderef02_Alike.f a0_0 a0_1 a1_0 a1_1 = some r) :
  Calls Tryz.prog 45 #[.agg #[.int .i64 a0_0, .int .i64 a0_1], .agg #[.int .i64 a1_0, .int .i64 a1_1]] w fun e w' => e = .returned (.bool r) ∧ Below w.heap.size w w' := by
 have hu34 := Tryz.underlying34
 have HB := Aside0.mk (Below.refl w.heap.size w)
 have HF_ := Aside0.mk h
 clear h
 go_enter Tryz.func45, Tryz.ntmps45
 go_upto_region 1 with (first | ((with_reducible refine gate_dst (N := 2) rfl ?_); refine box_event ?hg (N := 2) ?hd (cs := #[.int .i64 a0_0, .int .i64 a0_1]) (t := 34) ?hr ?_; (case hd => rfl); (case hg => rfl); (case hr => first | (go_simp; done) | (go_simp; rfl)); intro gb189 hg w7 hbox hb; have n0_ := Aside0.mk (below_step zF4_4 hb); have n1_ := Aside0.mk (hbox); have n2_ := Aside0.mk ((zF4_30 : w.heap.size ≤ gb189)); have n3_ := Aside0.mk ((zF4_30 : w.heap.size ≤ gb189)); clear HB; have HB := n0_; have BK189 := n1_; have GW189 := n2_; have GE189 := n3_; clear n0_ n1_ n2_ n3_; clear hb hbox hg) | ((with_reducible refine gate_dst (N := 3) rfl ?_); refine box_event ?hg (N := 3) ?hd (cs := #[.int .i64 a1_0, .int .i64 a1_1]) (t := 34) ?hr ?_; (case hd => rfl); (case hg => rfl); (case hr => first | (go_simp; done) | (go_simp; rfl)); intro gb190 hg w8 hbox hb; have n0_ := Aside0.mk (blk_below (g := gb189) (o := .cells #[.int .i64 a0_0, .int .i64 a0_1] 34 (0, 0)) zF4_23 hb); have n1_ := Aside0.mk (below_step zF4_16 hb); have n2_ := Aside0.mk (hbox); have n3_ := Aside0.mk ((by rw [hg]; exact (below_size zF4_16) : w.heap.size ≤ gb190)); have n4_ := Aside0.mk ((by rw [hg]; exact (below_size zF4_16) : w.heap.size ≤ gb190)); have n5_ := Aside0.mk ((by rw [hg]; exact Nat.ne_of_lt (blk_lt (g := gb189) (o := .cells #[.int .i64 a0_0, .int .i64 a0_1] 34 (0, 0)) zF4_23) : gb189 ≠ gb190)); have n6_ := Aside0.mk ((by rw [hg]; exact Nat.ne_of_gt (blk_lt (g := gb189) (o := .cells #[.int .i64 a0_0, .int .i64 a0_1] 34 (0, 0)) zF4_23) : gb190 ≠ gb189)); clear BK189; clear HB; have BK189 := n0_; have HB := n1_; have BK190 := n2_; have GW190 := n3_; have GE190 := n4_; have NB189_190 := n5_; have NB190_189 := n6_; clear n0_ n1_ n2_ n3_ n4_ n5_ n6_; clear hb hbox hg; have hnb9 := NB189_190.out; have hnc9 := NB190_189.out; have hcz10_0 : w8.cell? ⟨gb189, 0, none⟩ = some (.int .i64 a0_0) := (blk_cell BK189.out 0).trans rfl; have hcz10_1 : w8.cell? ⟨gb189, 1, none⟩ = some (.int .i64 a0_1) := (blk_cell BK189.out 1).trans rfl; have hfz10_0 := blk_frozen BK189.out 0; have hfz10_1 := blk_frozen BK189.out 1))
 (try simp only [Act.put, List.setIfInBounds_toArray, List.set_cons_zero, List.set_cons_succ])
 have h := HF_.out
 clear HF_
 have H : ((colonnaderef02_family.f a0_0).bind fun t191 => ((colonnaderef02_family.f a1_0).bind fun t192 => (if t191 = t192 then (if a0_0 ≥ 1 then (some (decide (a0_0 ≤ 5))) else (some false)) else (some false)))) = some r := h
 clear h
 replace H := Option.bind_eq_some_iff.mp H
 obtain ⟨t191, A30, H⟩ := H
 replace H : ((colonnaderef02_family.f a1_0).bind fun t192 => (if t191 = t192 then (if a0_0 ≥ 1 then (some (decide (a0_0 ≤ 5))) else (some false)) else (some false))) = some r := H
 have A3 := Aside0.mk A30
 clear A30
 replace H := Option.bind_eq_some_iff.mp H
 obtain ⟨t192, A40, H⟩ := H
 replace H : (if t191 = t192 then (if a0_0 ≥ 1 then (some (decide (a0_0 ≤ 5))) else (some false)) else (some false)) = some r := H
 have A4 := Aside0.mk A40
 clear A40
 by_cases c5 : t191 = t192
 ·rw [if_pos c5] at H
  have c5b0 : (t191 == t192) = true := beq_iff_eq.mpr c5
  have c5b1 : (t191 != t192) = false := bne_eq_false_iff_eq.mpr c5
  clear c5
  by_cases c6 : a0_0 ≥ 1
  ·rw [if_pos c6] at H
   have c6b0 : decide (1 ≤ a0_0) = true := decide_eq_true c6
   clear c6
   obtain rfl := Option.some.inj H
   go_wp2_with (first | (go_at_call 86; (with_reducible refine (colonnaderef02_family.calls a0_0 t191 _ A3.out).mono ?_); rintro e w' ⟨rfl, ⟨nd, rfl⟩⟩; (try first | exact ⟨rfl, _, World.drewN_drewN _ _ _⟩ | exact ⟨rfl, _, Eq.trans (World.drewN_drewN _ _ _) (congrArg (World.drewN _) (Nat.add_assoc _ _ _))⟩); have hcz11_0 : w8.cell? ⟨gb190, 0, none⟩ = some (.int .i64 a1_0) := (blk_cell BK190.out 0).trans rfl; have hcz11_1 : w8.cell? ⟨gb190, 1, none⟩ = some (.int .i64 a1_1) := (blk_cell BK190.out 1).trans rfl; have hfz11_0 := blk_frozen BK190.out 0; have hfz11_1 := blk_frozen BK190.out 1) | (go_at_call 86; (with_reducible refine (colonnaderef02_family.calls a1_0 t192 _ A4.out).mono ?_); rintro e w' ⟨rfl, ⟨nd, rfl⟩⟩; (try first | exact ⟨rfl, _, World.drewN_drewN _ _ _⟩ | exact ⟨rfl, _, Eq.trans (World.drewN_drewN _ _ _) (congrArg (World.drewN _) (Nat.add_assoc _ _ _))⟩)))
   repeat (go_quiet (first | (go_at_call 86; (with_reducible refine (colonnaderef02_family.calls a0_0 t191 _ A3.out).mono ?_); rintro e w' ⟨rfl, ⟨nd, rfl⟩⟩; (try first | exact ⟨rfl, _, World.drewN_drewN _ _ _⟩ | exact ⟨rfl, _, Eq.trans (World.drewN_drewN _ _ _) (congrArg (World.drewN _) (Nat.add_assoc _ _ _))⟩); have hcz11_0 : w8.cell? ⟨gb190, 0, none⟩ = some (.int .i64 a1_0) := (blk_cell BK190.out 0).trans rfl; have hcz11_1 : w8.cell? ⟨gb190, 1, none⟩ = some (.int .i64 a1_1) := (blk_cell BK190.out 1).trans rfl; have hfz11_0 := blk_frozen BK190.out 0; have hfz11_1 := blk_frozen BK190.out 1) | (go_at_call 86; (with_reducible refine (colonnaderef02_family.calls a1_0 t192 _ A4.out).mono ?_); rintro e w' ⟨rfl, ⟨nd, rfl⟩⟩; (try first | exact ⟨rfl, _, World.drewN_drewN _ _ _⟩ | exact ⟨rfl, _, Eq.trans (World.drewN_drewN _ _ _) (congrArg (World.drewN _) (Nat.add_assoc _ _ _))⟩))); try go_wp2_with (first | (go_at_call 86; (with_reducible refine (colonnaderef02_family.calls a0_0 t191 _ A3.out).mono ?_); rintro e w' ⟨rfl, ⟨nd, rfl⟩⟩; (try first | exact ⟨rfl, _, World.drewN_drewN _ _ _⟩ | exact ⟨rfl, _, Eq.trans (World.drewN_drewN _ _ _) (congrArg (World.drewN _) (Nat.add_assoc _ _ _))⟩); have hcz11_0 : w8.cell? ⟨gb190, 0, none⟩ = some (.int .i64 a1_0) := (blk_cell BK190.out 0).trans rfl; have hcz11_1 : w8.cell? ⟨gb190, 1, none⟩ = some (.int .i64 a1_1) := (blk_cell BK190.out 1).trans rfl; have hfz11_0 := blk_frozen BK190.out 0; have hfz11_1 := blk_frozen BK190.out 1) | (go_at_call 86; (with_reducible refine (colonnaderef02_family.calls a1_0 t192 _ A4.out).mono ?_); rintro e w' ⟨rfl, ⟨nd, rfl⟩⟩; (try first | exact ⟨rfl, _, World.drewN_drewN _ _ _⟩ | exact ⟨rfl, _, Eq.trans (World.drewN_drewN _ _ _) (congrArg (World.drewN _) (Nat.add_assoc _ _ _))⟩))))
   go_ret
   exact ⟨by first | rfl | (simp [errW_none, errW_some] <;> rfl) | (simp [*, errW_none, errW_some] <;> rfl), by repeat (first | (with_reducible first | exact HB.out | apply below_alloc | apply pw_below_drewN | apply below_drew1 | refine below_set ?_ GE189.out | refine below_set ?_ GE190.out) | exact HB.out)⟩
  ·rw [if_neg c6] at H
   have c6b0 : decide (1 ≤ a0_0) = false := decide_eq_false c6
   clear c6
   obtain rfl := Option.some.inj H
   go_wp2_with (first | (go_at_call 86; (with_reducible refine (colonnaderef02_family.calls a0_0 t191 _ A3.out).mono ?_); rintro e w' ⟨rfl, ⟨nd, rfl⟩⟩; (try first | exact ⟨rfl, _, World.drewN_drewN _ _ _⟩ | exact ⟨rfl, _, Eq.trans (World.drewN_drewN _ _ _) (congrArg (World.drewN _) (Nat.add_assoc _ _ _))⟩); have hcz16_0 : w8.cell? ⟨gb190, 0, none⟩ = some (.int .i64 a1_0) := (blk_cell BK190.out 0).trans rfl; have hcz16_1 : w8.cell? ⟨gb190, 1, none⟩ = some (.int .i64 a1_1) := (blk_cell BK190.out 1).trans rfl; have hfz16_0 := blk_frozen BK190.out 0; have hfz16_1 := blk_frozen BK190.out 1) | (go_at_call 86; (with_reducible refine (colonnaderef02_family.calls a1_0 t192 _ A4.out).mono ?_); rintro e w' ⟨rfl, ⟨nd, rfl⟩⟩; (try first | exact ⟨rfl, _, World.drewN_drewN _ _ _⟩ | exact ⟨rfl, _, Eq.trans (World.drewN_drewN _ _ _) (congrArg (World.drewN _) (Nat.add_assoc _ _ _))⟩)))
   repeat (go_quiet (first | (go_at_call 86; (with_reducible refine (colonnaderef02_family.calls a0_0 t191 _ A3.out).mono ?_); rintro e w' ⟨rfl, ⟨nd, rfl⟩⟩; (try first | exact ⟨rfl, _, World.drewN_drewN _ _ _⟩ | exact ⟨rfl, _, Eq.trans (World.drewN_drewN _ _ _) (congrArg (World.drewN _) (Nat.add_assoc _ _ _))⟩); have hcz16_0 : w8.cell? ⟨gb190, 0, none⟩ = some (.int .i64 a1_0) := (blk_cell BK190.out 0).trans rfl; have hcz16_1 : w8.cell? ⟨gb190, 1, none⟩ = some (.int .i64 a1_1) := (blk_cell BK190.out 1).trans rfl; have hfz16_0 := blk_frozen BK190.out 0; have hfz16_1 := blk_frozen BK190.out 1) | (go_at_call 86; (with_reducible refine (colonnaderef02_family.calls a1_0 t192 _ A4.out).mono ?_); rintro e w' ⟨rfl, ⟨nd, rfl⟩⟩; (try first | exact ⟨rfl, _, World.drewN_drewN _ _ _⟩ | exact ⟨rfl, _, Eq.trans (World.drewN_drewN _ _ _) (congrArg (World.drewN _) (Nat.add_assoc _ _ _))⟩))); try go_wp2_with (first | (go_at_call 86; (with_reducible refine (colonnaderef02_family.calls a0_0 t191 _ A3.out).mono ?_); rintro e w' ⟨rfl, ⟨nd, rfl⟩⟩; (try first | exact ⟨rfl, _, World.drewN_drewN _ _ _⟩ | exact ⟨rfl, _, Eq.trans (World.drewN_drewN _ _ _) (congrArg (World.drewN _) (Nat.add_assoc _ _ _))⟩); have hcz16_0 : w8.cell? ⟨gb190, 0, none⟩ = some (.int .i64 a1_0) := (blk_cell BK190.out 0).trans rfl; have hcz16_1 : w8.cell? ⟨gb190, 1, none⟩ = some (.int .i64 a1_1) := (blk_cell BK190.out 1).trans rfl; have hfz16_0 := blk_frozen BK190.out 0; have hfz16_1 := blk_frozen BK190.out 1) | (go_at_call 86; (with_reducible refine (colonnaderef02_family.calls a1_0 t192 _ A4.out).mono ?_); rintro e w' ⟨rfl, ⟨nd, rfl⟩⟩; (try first | exact ⟨rfl, _, World.drewN_drewN _ _ _⟩ | exact ⟨rfl, _, Eq.trans (World.drewN_drewN _ _ _) (congrArg (World.drewN _) (Nat.add_assoc _ _ _))⟩))))
   go_ret
   exact ⟨by first | rfl | (simp [errW_none, errW_some] <;> rfl) | (simp [*, errW_none, errW_some] <;> rfl), by repeat (first | (with_reducible first | exact HB.out | apply below_alloc | apply pw_below_drewN | apply below_drew1 | refine below_set ?_ GE189.out | refine below_set ?_ GE190.out) | exact HB.out)⟩
 ·rw [if_neg c5] at H
  have c5b0 : (t191 == t192) = false := beq_eq_false_iff_ne.mpr c5
  have c5b1 : (t191 != t192) = true := bne_iff_ne.mpr c5
  obtain rfl := Option.some.inj H
  go_wp2_with (first | (go_at_call 86; (with_reducible refine (colonnaderef02_family.calls a0_0 t191 _ A3.out).mono ?_); rintro e w' ⟨rfl, ⟨nd, rfl⟩⟩; (try first | exact ⟨rfl, _, World.drewN_drewN _ _ _⟩ | exact ⟨rfl, _, Eq.trans (World.drewN_drewN _ _ _) (congrArg (World.drewN _) (Nat.add_assoc _ _ _))⟩); have hcz21_0 : w8.cell? ⟨gb190, 0, none⟩ = some (.int .i64 a1_0) := (blk_cell BK190.out 0).trans rfl; have hcz21_1 : w8.cell? ⟨gb190, 1, none⟩ = some (.int .i64 a1_1) := (blk_cell BK190.out 1).trans rfl; have hfz21_0 := blk_frozen BK190.out 0; have hfz21_1 := blk_frozen BK190.out 1) | (go_at_call 86; (with_reducible refine (colonnaderef02_family.calls a1_0 t192 _ A4.out).mono ?_); rintro e w' ⟨rfl, ⟨nd, rfl⟩⟩; (try first | exact ⟨rfl, _, World.drewN_drewN _ _ _⟩ | exact ⟨rfl, _, Eq.trans (World.drewN_drewN _ _ _) (congrArg (World.drewN _) (Nat.add_assoc _ _ _))⟩)))
  repeat (go_quiet (first | (go_at_call 86; (with_reducible refine (colonnaderef02_family.calls a0_0 t191 _ A3.out).mono ?_); rintro e w' ⟨rfl, ⟨nd, rfl⟩⟩; (try first | exact ⟨rfl, _, World.drewN_drewN _ _ _⟩ | exact ⟨rfl, _, Eq.trans (World.drewN_drewN _ _ _) (congrArg (World.drewN _) (Nat.add_assoc _ _ _))⟩); have hcz21_0 : w8.cell? ⟨gb190, 0, none⟩ = some (.int .i64 a1_0) := (blk_cell BK190.out 0).trans rfl; have hcz21_1 : w8.cell? ⟨gb190, 1, none⟩ = some (.int .i64 a1_1) := (blk_cell BK190.out 1).trans rfl; have hfz21_0 := blk_frozen BK190.out 0; have hfz21_1 := blk_frozen BK190.out 1) | (go_at_call 86; (with_reducible refine (colonnaderef02_family.calls a1_0 t192 _ A4.out).mono ?_); rintro e w' ⟨rfl, ⟨nd, rfl⟩⟩; (try first | exact ⟨rfl, _, World.drewN_drewN _ _ _⟩ | exact ⟨rfl, _, Eq.trans (World.drewN_drewN _ _ _) (congrArg (World.drewN _) (Nat.add_assoc _ _ _))⟩))); try go_wp2_with (first | (go_at_call 86; (with_reducible refine (colonnaderef02_family.calls a0_0 t191 _ A3.out).mono ?_); rintro e w' ⟨rfl, ⟨nd, rfl⟩⟩; (try first | exact ⟨rfl, _, World.drewN_drewN _ _ _⟩ | exact ⟨rfl, _, Eq.trans (World.drewN_drewN _ _ _) (congrArg (World.drewN _) (Nat.add_assoc _ _ _))⟩); have hcz21_0 : w8.cell? ⟨gb190, 0, none⟩ = some (.int .i64 a1_0) := (blk_cell BK190.out 0).trans rfl; have hcz21_1 : w8.cell? ⟨gb190, 1, none⟩ = some (.int .i64 a1_1) := (blk_cell BK190.out 1).trans rfl; have hfz21_0 := blk_frozen BK190.out 0; have hfz21_1 := blk_frozen BK190.out 1) | (go_at_call 86; (with_reducible refine (colonnaderef02_family.calls a1_0 t192 _ A4.out).mono ?_); rintro e w' ⟨rfl, ⟨nd, rfl⟩⟩; (try first | exact ⟨rfl, _, World.drewN_drewN _ _ _⟩ | exact ⟨rfl, _, Eq.trans (World.drewN_drewN _ _ _) (congrArg (World.drewN _) (Nat.add_assoc _ _ _))⟩))))
  go_ret
  exact ⟨by first | rfl | (simp [errW_none, errW_some] <;> rfl) | (simp [*, errW_none, errW_some] <;> rfl), by repeat (first | (with_reducible first | exact HB.out | apply below_alloc | apply pw_below_drewN | apply below_drew1 | refine below_set ?_ GE189.out | refine below_set ?_ GE190.out) | exact HB.out)⟩

/-! ### colonnaderef02_CheckType: function 54 -/
def colonnaderef02_CheckType.f (a0_0 : Int) (a0_1 : Int) : Option (Int) := if a0_0 < 1 then (some 21) else (if a0_0 > 5 then (some 21) else (if a0_1 < 0 then (some 21) else (if a0_1 > 18 then (some 21) else (if a0_0 = 3 then (some 0) else (if a0_1 = 0 then (some 0) else (some 21))))))
set_option maxHeartbeats 8000000 in
set_option maxRecDepth 100000 in
theorem colonnaderef02_CheckType.calls (a0_0 : Int) (a0_1 : Int) (r : Int) (w : World) (h : colonnaderef02_CheckType.f a0_0 a0_1 = some r) :
  Calls Tryz.prog 54 #[.agg #[.int .i64 a0_0, .int .i64 a0_1]] w fun e w' => e = .returned (.int .i64 r) ∧ Below w.heap.size w w' := by
 have hu34 := Tryz.underlying34
 have HB := Aside0.mk (Below.refl w.heap.size w)
 have HF_ := Aside0.mk h
 clear h
 go_enter Tryz.func54, Tryz.ntmps54
 go_upto_region 1 with (first | ((with_reducible refine gate_dst (N := 1) rfl ?_); refine box_event ?hg (N := 1) ?hd (cs := #[.int .i64 a0_0, .int .i64 a0_1]) (t := 34) ?hr ?_; (case hd => rfl); (case hg => rfl); (case hr => first | (go_simp; done) | (go_simp; rfl)); intro gb193 hg w3 hbox hb; have n0_ := Aside0.mk (below_step zF4_4 hb); have n1_ := Aside0.mk (hbox); have n2_ := Aside0.mk ((zF4_30 : w.heap.size ≤ gb193)); have n3_ := Aside0.mk ((zF4_30 : w.heap.size ≤ gb193)); clear HB; have HB := n0_; have BK193 := n1_; have GW193 := n2_; have GE193 := n3_; clear n0_ n1_ n2_ n3_; clear hb hbox hg; have hcz4_0 : w3.cell? ⟨gb193, 0, none⟩ = some (.int .i64 a0_0) := (blk_cell BK193.out 0).trans rfl; have hcz4_1 : w3.cell? ⟨gb193, 1, none⟩ = some (.int .i64 a0_1) := (blk_cell BK193.out 1).trans rfl; have hfz4_0 := blk_frozen BK193.out 0; have hfz4_1 := blk_frozen BK193.out 1))
 (try simp only [Act.put, List.setIfInBounds_toArray, List.set_cons_zero, List.set_cons_succ])
 have h := HF_.out
 clear HF_
 have H : (if a0_0 < 1 then (some 21) else (if a0_0 > 5 then (some 21) else (if a0_1 < 0 then (some 21) else (if a0_1 > 18 then (some 21) else (if a0_0 = 3 then (some 0) else (if a0_1 = 0 then (some 0) else (some 21))))))) = some r := h
 clear h
 by_cases c2 : a0_0 < 1
 ·rw [if_pos c2] at H
  have c2b0 : decide (a0_0 < 1) = true := decide_eq_true c2
  clear c2
  obtain rfl := Option.some.inj H
  go_wp2
  go_ret
  exact ⟨by first | rfl | (simp [errW_none, errW_some] <;> rfl) | (simp [*, errW_none, errW_some] <;> rfl), by repeat (first | (with_reducible first | exact HB.out | apply below_alloc | apply pw_below_drewN | apply below_drew1 | refine below_set ?_ GE193.out) | exact HB.out)⟩
 ·rw [if_neg c2] at H
  have c2b0 : decide (a0_0 < 1) = false := decide_eq_false c2
  clear c2
  by_cases c5 : a0_0 > 5
  ·rw [if_pos c5] at H
   have c5b0 : decide (5 < a0_0) = true := decide_eq_true c5
   clear c5
   obtain rfl := Option.some.inj H
   go_wp2
   go_ret
   exact ⟨by first | rfl | (simp [errW_none, errW_some] <;> rfl) | (simp [*, errW_none, errW_some] <;> rfl), by repeat (first | (with_reducible first | exact HB.out | apply below_alloc | apply pw_below_drewN | apply below_drew1 | refine below_set ?_ GE193.out) | exact HB.out)⟩
  ·rw [if_neg c5] at H
   have c5b0 : decide (5 < a0_0) = false := decide_eq_false c5
   clear c5
   by_cases c8 : a0_1 < 0
   ·rw [if_pos c8] at H
    have c8b0 : decide (a0_1 < 0) = true := decide_eq_true c8
    clear c8
    obtain rfl := Option.some.inj H
    go_wp2
    go_ret
    exact ⟨by first | rfl | (simp [errW_none, errW_some] <;> rfl) | (simp [*, errW_none, errW_some] <;> rfl), by repeat (first | (with_reducible first | exact HB.out | apply below_alloc | apply pw_below_drewN | apply below_drew1 | refine below_set ?_ GE193.out) | exact HB.out)⟩
   ·rw [if_neg c8] at H
    have c8b0 : decide (a0_1 < 0) = false := decide_eq_false c8
    clear c8
    by_cases c11 : a0_1 > 18
    ·rw [if_pos c11] at H
     have c11b0 : decide (18 < a0_1) = true := decide_eq_true c11
     clear c11
     obtain rfl := Option.some.inj H
     go_wp2
     go_ret
     exact ⟨by first | rfl | (simp [errW_none, errW_some] <;> rfl) | (simp [*, errW_none, errW_some] <;> rfl), by repeat (first | (with_reducible first | exact HB.out | apply below_alloc | apply pw_below_drewN | apply below_drew1 | refine below_set ?_ GE193.out) | exact HB.out)⟩
    ·rw [if_neg c11] at H
     have c11b0 : decide (18 < a0_1) = false := decide_eq_false c11
     clear c11
     by_cases c14 : a0_0 = 3
     ·rw [if_pos c14] at H
      have c14b0 : (a0_0 == 3) = true := beq_iff_eq.mpr c14
      have c14b1 : (a0_0 != 3) = false := bne_eq_false_iff_eq.mpr c14
      clear c14
      obtain rfl := Option.some.inj H
      go_wp2
      go_ret
      exact ⟨by first | rfl | (simp [errW_none, errW_some] <;> rfl) | (simp [*, errW_none, errW_some] <;> rfl), by repeat (first | (with_reducible first | exact HB.out | apply below_alloc | apply pw_below_drewN | apply below_drew1 | refine below_set ?_ GE193.out) | exact HB.out)⟩
     ·rw [if_neg c14] at H
      have c14b0 : (a0_0 == 3) = false := beq_eq_false_iff_ne.mpr c14
      have c14b1 : (a0_0 != 3) = true := bne_iff_ne.mpr c14
      by_cases c17 : a0_1 = 0
      ·rw [if_pos c17] at H
       have c17b0 : (a0_1 == 0) = true := beq_iff_eq.mpr c17
       have c17b1 : (a0_1 != 0) = false := bne_eq_false_iff_eq.mpr c17
       clear c17
       obtain rfl := Option.some.inj H
       go_wp2
       go_ret
       exact ⟨by first | rfl | (simp [errW_none, errW_some] <;> rfl) | (simp [*, errW_none, errW_some] <;> rfl), by repeat (first | (with_reducible first | exact HB.out | apply below_alloc | apply pw_below_drewN | apply below_drew1 | refine below_set ?_ GE193.out) | exact HB.out)⟩
      ·rw [if_neg c17] at H
       have c17b0 : (a0_1 == 0) = false := beq_eq_false_iff_ne.mpr c17
       have c17b1 : (a0_1 != 0) = true := bne_iff_ne.mpr c17
       obtain rfl := Option.some.inj H
       go_wp2
       go_ret
       exact ⟨by first | rfl | (simp [errW_none, errW_some] <;> rfl) | (simp [*, errW_none, errW_some] <;> rfl), by repeat (first | (with_reducible first | exact HB.out | apply below_alloc | apply pw_below_drewN | apply below_drew1 | refine below_set ?_ GE193.out) | exact HB.out)⟩

/-! ### colonnaderef02_way: function 87 -/
def colonnaderef02_way.f (a0 : Int) (a1 : Int) : Option (Bool) := if a0 ≥ 1 then (if a0 ≤ 5 then (if a0 = a1 then (some true) else (if a1 = 4 then (some true) else (if a0 = 4 then (some true) else ((colonnaderef02_family.f a0).bind fun t194 => ((colonnaderef02_family.f a1).bind fun t195 => (some (t194 == t195))))))) else (some false)) else (some false)
set_option maxHeartbeats 8000000 in
set_option maxRecDepth 100000 in
theorem colonnaderef02_way.calls (a0 : Int) (a1 : Int) (r : Bool) (w : World) (h : colonnaderef02_way.f a0 a1 = some r) :
  Calls Tryz.prog 87 #[.int .i64 a0, .int .i64 a1] w fun e w' => e = .returned (.bool r) ∧ Drawn0 w w' := by
 have H : (if a0 ≥ 1 then (if a0 ≤ 5 then (if a0 = a1 then (some true) else (if a1 = 4 then (some true) else (if a0 = 4 then (some true) else ((colonnaderef02_family.f a0).bind fun t194 => ((colonnaderef02_family.f a1).bind fun t195 => (some (t194 == t195))))))) else (some false)) else (some false)) = some r := h
 clear h
 by_cases c3 : a0 ≥ 1
 ·rw [if_pos c3] at H
  have c3b0 : decide (1 ≤ a0) = true := decide_eq_true c3
  clear c3
  by_cases c4 : a0 ≤ 5
  ·rw [if_pos c4] at H
   have c4b0 : decide (a0 ≤ 5) = true := decide_eq_true c4
   clear c4
   by_cases c5 : a0 = a1
   ·rw [if_pos c5] at H
    have c5b0 : (a0 == a1) = true := beq_iff_eq.mpr c5
    have c5b1 : (a0 != a1) = false := bne_eq_false_iff_eq.mpr c5
    clear c5
    obtain rfl := Option.some.inj H
    go_enter Tryz.func87, Tryz.ntmps87
    go_wp2
    go_ret
    exact ⟨by first | rfl | (simp; done) | (simp [*]; done), by repeat (first | exact Drawn0.refl _ | apply Drawn0.step)⟩
   ·rw [if_neg c5] at H
    have c5b0 : (a0 == a1) = false := beq_eq_false_iff_ne.mpr c5
    have c5b1 : (a0 != a1) = true := bne_iff_ne.mpr c5
    by_cases c6 : a1 = 4
    ·rw [if_pos c6] at H
     have c6b0 : (a1 == 4) = true := beq_iff_eq.mpr c6
     have c6b1 : (a1 != 4) = false := bne_eq_false_iff_eq.mpr c6
     clear c6
     obtain rfl := Option.some.inj H
     go_enter Tryz.func87, Tryz.ntmps87
     go_wp2
     go_ret
     exact ⟨by first | rfl | (simp; done) | (simp [*]; done), by repeat (first | exact Drawn0.refl _ | apply Drawn0.step)⟩
    ·rw [if_neg c6] at H
     have c6b0 : (a1 == 4) = false := beq_eq_false_iff_ne.mpr c6
     have c6b1 : (a1 != 4) = true := bne_iff_ne.mpr c6
     by_cases c7 : a0 = 4
     ·rw [if_pos c7] at H
      have c7b0 : (a0 == 4) = true := beq_iff_eq.mpr c7
      have c7b1 : (a0 != 4) = false := bne_eq_false_iff_eq.mpr c7
      clear c7
      obtain rfl := Option.some.inj H
      go_enter Tryz.func87, Tryz.ntmps87
      go_wp2
      go_ret
      exact ⟨by first | rfl | (simp; done) | (simp [*]; done), by repeat (first | exact Drawn0.refl _ | apply Drawn0.step)⟩
     ·rw [if_neg c7] at H
      have c7b0 : (a0 == 4) = false := beq_eq_false_iff_ne.mpr c7
      have c7b1 : (a0 != 4) = true := bne_iff_ne.mpr c7
      replace H := Option.bind_eq_some_iff.mp H
      obtain ⟨t194, A80, H⟩ := H
      replace H : ((colonnaderef02_family.f a1).bind fun t195 => (some (t194 == t195))) = some r := H
      have A8 := Aside0.mk A80
      clear A80
      replace H := Option.bind_eq_some_iff.mp H
      obtain ⟨t195, A90, H⟩ := H
      replace H : (some (t194 == t195)) = some r := H
      have A9 := Aside0.mk A90
      clear A90
      obtain rfl := Option.some.inj H
      go_enter Tryz.func87, Tryz.ntmps87
      go_wp2_with (first | (go_at_call 86; (with_reducible refine (colonnaderef02_family.calls a0 t194 _ A8.out).mono ?_); rintro e w' ⟨rfl, ⟨nd, rfl⟩⟩) | (go_at_call 86; (with_reducible refine (colonnaderef02_family.calls a1 t195 _ A9.out).mono ?_); rintro e w' ⟨rfl, ⟨nd, rfl⟩⟩))
      go_ret
      exact ⟨by first | rfl | (simp; done) | (simp [*]; done), by repeat (first | exact Drawn0.refl _ | apply Drawn0.step)⟩
  ·rw [if_neg c4] at H
   have c4b0 : decide (a0 ≤ 5) = false := decide_eq_false c4
   clear c4
   obtain rfl := Option.some.inj H
   go_enter Tryz.func87, Tryz.ntmps87
   go_wp2
   go_ret
   exact ⟨by first | rfl | (simp; done) | (simp [*]; done), by repeat (first | exact Drawn0.refl _ | apply Drawn0.step)⟩
 ·rw [if_neg c3] at H
  have c3b0 : decide (1 ≤ a0) = false := decide_eq_false c3
  clear c3
  obtain rfl := Option.some.inj H
  go_enter Tryz.func87, Tryz.ntmps87
  go_wp2
  go_ret
  exact ⟨by first | rfl | (simp; done) | (simp [*]; done), by repeat (first | exact Drawn0.refl _ | apply Drawn0.step)⟩

/-! ### colonnaderef02_OfText: function 89 -/
def colonnaderef02_OfText.f (a0 : ByteArray) : Option (Int × Int × Bool × Int × ByteArray) := some (4, 0, false, 0, a0)
set_option maxHeartbeats 8000000 in
set_option maxRecDepth 100000 in
theorem colonnaderef02_OfText.calls (a0 : ByteArray) (r1 : Int) (r2 : Int) (r3 : Bool) (r4 : Int) (r5 : ByteArray) (w : World) (h : colonnaderef02_OfText.f a0 = some (r1, r2, r3, r4, r5)) :
  Calls Tryz.prog 89 #[.string a0] w fun e w' => e = .returned (.agg #[.int .i64 r1, .int .i64 r2, .bool r3, .int .i64 r4, .string r5]) ∧ Below w.heap.size w w' := by
 have hu41 := Tryz.underlying41
 have hu34 := Tryz.underlying34
 have HB := Aside0.mk (Below.refl w.heap.size w)
 have H : (some (4, 0, false, 0, a0)) = some (r1, r2, r3, r4, r5) := h
 clear h
 simp only [Option.some.injEq, Prod.mk.injEq] at H
 obtain ⟨rfl, rfl, rfl, rfl, rfl⟩ := H
 go_enter Tryz.func89, Tryz.ntmps89
 go_wp2_with (first | ((with_reducible refine gate_dst (N := 2) rfl ?_); refine box_event ?hg (N := 2) ?hd (cs := #[.int .i64 0, .int .i64 0, .bool false, .int .i64 0, .string (⟨#[]⟩ : ByteArray)]) (t := 41) ?hr ?_; (case hd => rfl); (case hg => rfl); (case hr => first | (go_simp; done) | (go_simp; rfl)); intro gb196 hg w2 hbox hb; have n0_ := Aside0.mk (below_step zF4_4 hb); have n1_ := Aside0.mk (hbox); have n2_ := Aside0.mk ((zF4_30 : w.heap.size ≤ gb196)); have n3_ := Aside0.mk ((zF4_30 : w.heap.size ≤ gb196)); clear HB; have HB := n0_; have BK196 := n1_; have GW196 := n2_; have GE196 := n3_; clear n0_ n1_ n2_ n3_; clear hb hbox hg; have hcz3_0 : w2.cell? ⟨gb196, 0, none⟩ = some (.int .i64 0) := (blk_cell BK196.out 0).trans rfl; have hcz3_1 : w2.cell? ⟨gb196, 1, none⟩ = some (.int .i64 0) := (blk_cell BK196.out 1).trans rfl; have hcz3_2 : w2.cell? ⟨gb196, 2, none⟩ = some (.bool false) := (blk_cell BK196.out 2).trans rfl; have hcz3_3 : w2.cell? ⟨gb196, 3, none⟩ = some (.int .i64 0) := (blk_cell BK196.out 3).trans rfl; have hcz3_4 : w2.cell? ⟨gb196, 4, none⟩ = some (.string (⟨#[]⟩ : ByteArray)) := (blk_cell BK196.out 4).trans rfl; have hfz3_0 := blk_frozen BK196.out 0; have hfz3_1 := blk_frozen BK196.out 1; have hfz3_2 := blk_frozen BK196.out 2; have hfz3_3 := blk_frozen BK196.out 3; have hfz3_4 := blk_frozen BK196.out 4))
 refine bodyPost_ret (results_cell_row rfl _ _ gb196 41 #[.int .i64 4, .int .i64 0, .bool false, .int .i64 0, .string a0] (0, 0) _ rfl (by (with_reducible repeat (first | refine blk_drewN ?_ _ | refine blk_drew ?_ | refine blk_alloc ?_ _)); refine blk_put (cs := #[.int .i64 4, .int .i64 0, .bool false, .int .i64 0, .string (⟨#[]⟩ : ByteArray)]) ?_ 4 _ rfl; (with_reducible repeat (first | refine blk_drewN ?_ _ | refine blk_drew ?_ | refine blk_alloc ?_ _)); refine blk_put (cs := #[.int .i64 4, .int .i64 0, .bool false, .int .i64 0, .string (⟨#[]⟩ : ByteArray)]) ?_ 3 _ rfl; (with_reducible repeat (first | refine blk_drewN ?_ _ | refine blk_drew ?_ | refine blk_alloc ?_ _)); refine blk_put (cs := #[.int .i64 4, .int .i64 0, .bool false, .int .i64 0, .string (⟨#[]⟩ : ByteArray)]) ?_ 2 _ rfl; (with_reducible repeat (first | refine blk_drewN ?_ _ | refine blk_drew ?_ | refine blk_alloc ?_ _)); refine blk_put (cs := #[.int .i64 4, .int .i64 0, .bool false, .int .i64 0, .string (⟨#[]⟩ : ByteArray)]) ?_ 1 _ rfl; (with_reducible repeat (first | refine blk_drewN ?_ _ | refine blk_drew ?_ | refine blk_alloc ?_ _)); refine blk_put (cs := #[.int .i64 0, .int .i64 0, .bool false, .int .i64 0, .string (⟨#[]⟩ : ByteArray)]) ?_ 0 _ rfl; (with_reducible repeat (first | refine blk_drewN ?_ _ | refine blk_drew ?_ | refine blk_alloc ?_ _)); exact BK196.out) Tryz.underlying41 rfl zF4_24) rfl ?_
 exact ⟨by first | rfl | (simp [errW_none, errW_some] <;> rfl) | (simp [*, errW_none, errW_some] <;> rfl), by repeat (first | (with_reducible first | exact HB.out | apply below_alloc | apply pw_below_drewN | apply below_drew1 | refine below_set ?_ GE196.out) | exact HB.out)⟩

/-! ### colonnaderef01_Fits: function 55 -/
def colonnaderef01_Fits.f (a0 : Int) : Option (Bool) := if a0 ≥ (-999999999999999999) then (some (decide (a0 ≤ 999999999999999999))) else (some false)
set_option maxHeartbeats 8000000 in
set_option maxRecDepth 100000 in
theorem colonnaderef01_Fits.calls (a0 : Int) (r : Bool) (w : World) (h : colonnaderef01_Fits.f a0 = some r) :
  Calls Tryz.prog 55 #[.int .i64 a0] w fun e w' => e = .returned (.bool r) ∧ Drawn0 w w' := by
 have H : (if a0 ≥ (-999999999999999999) then (some (decide (a0 ≤ 999999999999999999))) else (some false)) = some r := h
 clear h
 by_cases c2 : a0 ≥ (-999999999999999999)
 ·rw [if_pos c2] at H
  have c2b0 : decide ((-999999999999999999) ≤ a0) = true := decide_eq_true c2
  clear c2
  obtain rfl := Option.some.inj H
  go_enter Tryz.func55, Tryz.ntmps55
  go_wp2
  go_ret
  exact ⟨by first | rfl | (simp; done) | (simp [*]; done), by repeat (first | exact Drawn0.refl _ | apply Drawn0.step)⟩
 ·rw [if_neg c2] at H
  have c2b0 : decide ((-999999999999999999) ≤ a0) = false := decide_eq_false c2
  clear c2
  obtain rfl := Option.some.inj H
  go_enter Tryz.func55, Tryz.ntmps55
  go_wp2
  go_ret
  exact ⟨by first | rfl | (simp; done) | (simp [*]; done), by repeat (first | exact Drawn0.refl _ | apply Drawn0.step)⟩

/-! ### colonnaderef01_amount: function 95 -/
def colonnaderef01_amount.f (a0 : Int) : Option (Int) := if a0 < 0 then (some (IntKind.u64.wrap (-(IntKind.u64.wrap (a0))))) else (some (IntKind.u64.wrap (a0)))
set_option maxHeartbeats 8000000 in
set_option maxRecDepth 100000 in
theorem colonnaderef01_amount.calls (a0 : Int) (r : Int) (w : World) (h : colonnaderef01_amount.f a0 = some r) :
  Calls Tryz.prog 95 #[.int .i64 a0] w fun e w' => e = .returned (.int .u64 r) ∧ Drawn0 w w' := by
 have H : (if a0 < 0 then (some (IntKind.u64.wrap (-(IntKind.u64.wrap (a0))))) else (some (IntKind.u64.wrap (a0)))) = some r := h
 clear h
 by_cases c2 : a0 < 0
 ·rw [if_pos c2] at H
  have c2b0 : decide (a0 < 0) = true := decide_eq_true c2
  clear c2
  obtain rfl := Option.some.inj H
  go_enter Tryz.func95, Tryz.ntmps95
  go_wp2
  go_ret
  exact ⟨by first | rfl | (simp; done) | (simp [*]; done), by repeat (first | exact Drawn0.refl _ | apply Drawn0.step)⟩
 ·rw [if_neg c2] at H
  have c2b0 : decide (a0 < 0) = false := decide_eq_false c2
  clear c2
  obtain rfl := Option.some.inj H
  go_enter Tryz.func95, Tryz.ntmps95
  go_wp2
  go_ret
  exact ⟨by first | rfl | (simp; done) | (simp [*]; done), by repeat (first | exact Drawn0.refl _ | apply Drawn0.step)⟩

/-! ### colonnaderef01_Pow10: function 138 -/
mutual
def colonnaderef01_Pow10.j0 : Nat → Int → Bool → Option (Int × Int)
 | 0, _, _ => none
 | k + 1, x0, x11 => if x11 = true then (some (0, 1)) else (colonnaderef01_Pow10.l0 k x0 1 0)
def colonnaderef01_Pow10.l0 : Nat → Int → Int → Int → Option (Int × Int)
 | 0, _, _, _ => none
 | k + 1, x0, x4, x5 => if x5 < x0 then (colonnaderef01_Pow10.l0 k x0 (wrap64 (x4 * 10)) (wrap64 (x5 + 1))) else (some (x4, 0))
end
def colonnaderef01_Pow10.f (k : Nat) (a0 : Int) : Option (Int × Int) := if a0 < 0 then (colonnaderef01_Pow10.j0 k a0 true) else (colonnaderef01_Pow10.j0 k a0 (decide (a0 > 18)))
theorem colonnaderef01_Pow10.mono_l : ∀ k, (∀ y0 y1, LeO (colonnaderef01_Pow10.j0 k y0 y1) (colonnaderef01_Pow10.j0 (k + 1) y0 y1)) ∧ (∀ y0 y1 y2, LeO (colonnaderef01_Pow10.l0 k y0 y1 y2) (colonnaderef01_Pow10.l0 (k + 1) y0 y1 y2))
 | 0 => ⟨fun _ _ r h => by simp [colonnaderef01_Pow10.j0] at h, fun _ _ _ r h => by simp [colonnaderef01_Pow10.l0] at h⟩
 | k + 1 => by
  obtain ⟨ih0, ih1⟩ := colonnaderef01_Pow10.mono_l k
  refine ⟨?_, ?_⟩
  ·intro y0 y1
   unfold colonnaderef01_Pow10.j0
   repeat' first
   | (with_reducible exact ih0 _ _)
   | (with_reducible exact ih1 _ _ _)
   | (with_reducible exact LeO.refl _)
   | (with_reducible exact LeO.none _)
   | (with_reducible refine LeO.ite ?_ ?_)
   | (with_reducible refine LeO.bind ?_ (fun _ => ?_))
   | exact ih0 _ _
   | exact ih1 _ _ _
   | exact LeO.none _
   | refine LeO.ite ?_ ?_
   | refine LeO.bind ?_ (fun _ => ?_)
  ·intro y0 y1 y2
   unfold colonnaderef01_Pow10.l0
   repeat' first
   | (with_reducible exact ih0 _ _)
   | (with_reducible exact ih1 _ _ _)
   | (with_reducible exact LeO.refl _)
   | (with_reducible exact LeO.none _)
   | (with_reducible refine LeO.ite ?_ ?_)
   | (with_reducible refine LeO.bind ?_ (fun _ => ?_))
   | exact ih0 _ _
   | exact ih1 _ _ _
   | exact LeO.none _
   | refine LeO.ite ?_ ?_
   | refine LeO.bind ?_ (fun _ => ?_)
theorem colonnaderef01_Pow10.mono : ∀ a0 k, LeO (colonnaderef01_Pow10.f k a0) (colonnaderef01_Pow10.f (k + 1) a0) := by
 intro a0 k
 obtain ⟨ih0, ih1⟩ := colonnaderef01_Pow10.mono_l k
 unfold colonnaderef01_Pow10.f
 repeat' first
   | (with_reducible exact ih0 _ _)
   | (with_reducible exact ih1 _ _ _)
   | (with_reducible exact LeO.refl _)
   | (with_reducible exact LeO.none _)
   | (with_reducible refine LeO.ite ?_ ?_)
   | (with_reducible refine LeO.bind ?_ (fun _ => ?_))
   | exact ih0 _ _
   | exact ih1 _ _ _
   | exact LeO.none _
   | refine LeO.ite ?_ ?_
   | refine LeO.bind ?_ (fun _ => ?_)
set_option maxHeartbeats 8000000 in
set_option maxRecDepth 100000 in
theorem colonnaderef01_Pow10.calls (k : Nat) (a0 : Int) (r1 : Int) (r2 : Int) (w : World) (h : colonnaderef01_Pow10.f k a0 = some (r1, r2)) :
  Calls Tryz.prog 138 #[.int .i64 a0] w fun e w' => e = .returned (.tuple #[.int .i64 r1, .int .i64 r2]) ∧ Drawn0 w w' := by
 have H : (if a0 < 0 then (colonnaderef01_Pow10.j0 k a0 true) else (colonnaderef01_Pow10.j0 k a0 (decide (a0 > 18)))) = some (r1, r2) := h
 clear h
 have HC2 := Aside0.mk H
 clear H
 go_enter Tryz.func138, Tryz.ntmps138
 go_upto_region 1 with (fail)
 go_cut [11] (fun v11 wc => ∃ (kq : Nat) (x11_1 : Bool), v11 = .bool x11_1 ∧ Aside0 (colonnaderef01_Pow10.j0 kq a0 x11_1 = some (r1, r2)) ∧ Aside0 (kq ≤ k) ∧ Drawn0 w wc)
 case first =>
  have H := HC2.out
  clear HC2
  by_cases c3 : a0 < 0
  ·rw [if_pos c3] at H
   have c3b0 : decide (a0 < 0) = true := decide_eq_true c3
   clear c3
   (first | rw [c3b0] | (simp only [i64_w, i32_w]; rw [c3b0]) | skip)
   have H' := Aside0.mk H
   clear H
   go_wp2
   go_meet
   case rel => exact ⟨_, (true), zF4_11, H', ⟨by first | omega | exact Nat.le_refl _⟩, by repeat (first | exact Drawn0.refl _ | apply Drawn0.step)⟩
  ·rw [if_neg c3] at H
   have c3b0 : decide (a0 < 0) = false := decide_eq_false c3
   clear c3
   (first | rw [c3b0] | (simp only [i64_w, i32_w]; rw [c3b0]) | skip)
   have H' := Aside0.mk H
   clear H
   go_wp2
   go_meet
   case rel => exact ⟨_, (decide (a0 > 18)), zF4_11, H', ⟨by first | omega | exact Nat.le_refl _⟩, by repeat (first | exact Drawn0.refl _ | apply Drawn0.step)⟩
 case rest =>
  clear HC2
  obtain ⟨kq, x11_1, rfl, HA, HJ1, ⟨mc1, rfl⟩⟩ := hcut
  cases kq with
  | zero => exact absurd HA.out (by simp [colonnaderef01_Pow10.j0])
  | succ kj1 =>
   have H := HA.out
   clear HA
   simp only [colonnaderef01_Pow10.j0] at H
   by_cases c4 : x11_1 = true
   ·subst c4
    have H1 : (some (0, 1)) = some (r1, r2) := by rw [if_pos rfl] at H; exact H
    clear H
    have H := H1
    clear H1
    simp only [Option.some.injEq, Prod.mk.injEq] at H
    obtain ⟨rfl, rfl⟩ := H
    go_wp2
    go_ret2
    exact ⟨by first | rfl | (simp; done) | (simp [*]; done), by repeat (first | exact Drawn0.refl _ | apply Drawn0.step)⟩
   ·replace c4 := Bool.eq_false_iff.mpr c4
    subst c4
    have H1 : (colonnaderef01_Pow10.l0 kj1 a0 1 0) = some (r1, r2) := by rw [if_neg (show ¬ (false = true) by decide)] at H; exact H
    clear H
    have H := H1
    clear H1
    have H' := Aside0.mk H
    clear H
    go_wp2
    go_loopg [4, 5] kj1 (fun kq v4 v5 w' => ∃ (x4_2 : Int) (x5_2 : Int), v4 = .int .i64 x4_2 ∧ v5 = .int .i64 x5_2 ∧ Aside0 (colonnaderef01_Pow10.l0 kq a0 x4_2 x5_2 = some (r1, r2)) ∧ Aside0 (kq ≤ kj1) ∧ Drawn0 w w')
    case atStart => exact ⟨(1), (0), zF4_11, zF4_11, H', ⟨Nat.le_refl _⟩, by repeat (first | exact Drawn0.refl _ | apply Drawn0.step)⟩
    case round =>
     clear H'
     (try clear c4)
     obtain ⟨x4_2, x5_2, rfl, rfl, HA, HK2, ⟨m2, rfl⟩⟩ := hrel
     cases gk with
     | zero => exact absurd HA.out (by simp [colonnaderef01_Pow10.l0])
     | succ k2 =>
      have H := HA.out
      clear HA
      simp only [colonnaderef01_Pow10.l0] at H
      by_cases c5 : x5_2 < a0
      ·rw [if_pos c5] at H
       have c5b0 : decide (x5_2 < a0) = true := decide_eq_true c5
       clear c5
       have H' := Aside0.mk H
       clear H
       go_wp2
       go_roundg k2
       case measure => have := HJ1.out; have := HK2.out; omega
       case rel => exact ⟨(wrap64 (x4_2 * 10)), (wrap64 (x5_2 + 1)), zF4_11, zF4_11, H', ⟨by have := HJ1.out; have := HK2.out; omega⟩, by repeat (first | exact Drawn0.refl _ | apply Drawn0.step)⟩
      ·rw [if_neg c5] at H
       have c5b0 : decide (x5_2 < a0) = false := decide_eq_false c5
       clear c5
       simp only [Option.some.injEq, Prod.mk.injEq] at H
       obtain ⟨rfl, rfl⟩ := H
       go_wp2
       go_ret2
       exact ⟨by first | rfl | (simp; done) | (simp [*]; done), by repeat (first | exact Drawn0.refl _ | apply Drawn0.step)⟩

/-! ### colonnaderef01_signed: function 140 -/
def colonnaderef01_signed.j0 : Nat → Int → Bool → Option (Int × Int)
 | 0, _, _ => none
 | k + 1, x0, x10 => if x10 = true then (some (wrap64 (IntKind.u64.wrap (-x0)), 0)) else (if x0 > 9223372036854775807 then (some (0, 10)) else (some (wrap64 (x0), 0)))
def colonnaderef01_signed.f (k : Nat) (a0 : Int) (a1 : Bool) : Option (Int × Int) := if a1 = true then (colonnaderef01_signed.j0 k a0 (decide (a0 ≤ 9223372036854775808))) else (colonnaderef01_signed.j0 k a0 false)
theorem colonnaderef01_signed.mono_l : ∀ k, (∀ y0 y1, LeO (colonnaderef01_signed.j0 k y0 y1) (colonnaderef01_signed.j0 (k + 1) y0 y1))
 | 0 => fun _ _ r h => by simp [colonnaderef01_signed.j0] at h
 | k + 1 => by
  have ih0 := colonnaderef01_signed.mono_l k
  ·intro y0 y1
   unfold colonnaderef01_signed.j0
   repeat' first
   | (with_reducible exact ih0 _ _)
   | (with_reducible exact LeO.refl _)
   | (with_reducible exact LeO.none _)
   | (with_reducible refine LeO.ite ?_ ?_)
   | (with_reducible refine LeO.bind ?_ (fun _ => ?_))
   | exact ih0 _ _
   | exact LeO.none _
   | refine LeO.ite ?_ ?_
   | refine LeO.bind ?_ (fun _ => ?_)
theorem colonnaderef01_signed.mono : ∀ a0 a1 k, LeO (colonnaderef01_signed.f k a0 a1) (colonnaderef01_signed.f (k + 1) a0 a1) := by
 intro a0 a1 k
 have ih0 := colonnaderef01_signed.mono_l k
 unfold colonnaderef01_signed.f
 repeat' first
   | (with_reducible exact ih0 _ _)
   | (with_reducible exact LeO.refl _)
   | (with_reducible exact LeO.none _)
   | (with_reducible refine LeO.ite ?_ ?_)
   | (with_reducible refine LeO.bind ?_ (fun _ => ?_))
   | exact ih0 _ _
   | exact LeO.none _
   | refine LeO.ite ?_ ?_
   | refine LeO.bind ?_ (fun _ => ?_)
set_option maxHeartbeats 8000000 in
set_option maxRecDepth 100000 in
theorem colonnaderef01_signed.calls (k : Nat) (a0 : Int) (a1 : Bool) (r1 : Int) (r2 : Int) (w : World) (h : colonnaderef01_signed.f k a0 a1 = some (r1, r2)) :
  Calls Tryz.prog 140 #[.int .u64 a0, .bool a1] w fun e w' => e = .returned (.tuple #[.int .i64 r1, .int .i64 r2]) ∧ Drawn0 w w' := by
 have H : (if a1 = true then (colonnaderef01_signed.j0 k a0 (decide (a0 ≤ 9223372036854775808))) else (colonnaderef01_signed.j0 k a0 false)) = some (r1, r2) := h
 clear h
 have HC3 := Aside0.mk H
 clear H
 go_enter Tryz.func140, Tryz.ntmps140
 go_upto_region 1 with (fail)
 go_cut [10] (fun v10 wc => ∃ (kq : Nat) (x10_2 : Bool), v10 = .bool x10_2 ∧ Aside0 (colonnaderef01_signed.j0 kq a0 x10_2 = some (r1, r2)) ∧ Aside0 (kq ≤ k) ∧ Drawn0 w wc)
 case first =>
  have H := HC3.out
  clear HC3
  by_cases c4 : a1 = true
  ·subst c4
   have H1 : (colonnaderef01_signed.j0 k a0 (decide (a0 ≤ 9223372036854775808))) = some (r1, r2) := by rw [if_pos rfl] at H; exact H
   clear H
   have H := H1
   clear H1
   have H' := Aside0.mk H
   clear H
   go_wp2
   go_meet
   case rel => exact ⟨_, (decide (a0 ≤ 9223372036854775808)), zF4_11, H', ⟨by first | omega | exact Nat.le_refl _⟩, by repeat (first | exact Drawn0.refl _ | apply Drawn0.step)⟩
  ·replace c4 := Bool.eq_false_iff.mpr c4
   subst c4
   have H1 : (colonnaderef01_signed.j0 k a0 false) = some (r1, r2) := by rw [if_neg (show ¬ (false = true) by decide)] at H; exact H
   clear H
   have H := H1
   clear H1
   have H' := Aside0.mk H
   clear H
   go_wp2
   go_meet
   case rel => exact ⟨_, (false), zF4_11, H', ⟨by first | omega | exact Nat.le_refl _⟩, by repeat (first | exact Drawn0.refl _ | apply Drawn0.step)⟩
 case rest =>
  clear HC3
  obtain ⟨kq, x10_2, rfl, HA, HJ2, ⟨mc2, rfl⟩⟩ := hcut
  cases kq with
  | zero => exact absurd HA.out (by simp [colonnaderef01_signed.j0])
  | succ kj2 =>
   have H := HA.out
   clear HA
   simp only [colonnaderef01_signed.j0] at H
   by_cases c5 : x10_2 = true
   ·subst c5
    have H1 : (some (wrap64 (IntKind.u64.wrap (-a0)), 0)) = some (r1, r2) := by rw [if_pos rfl] at H; exact H
    clear H
    have H := H1
    clear H1
    simp only [Option.some.injEq, Prod.mk.injEq] at H
    obtain ⟨rfl, rfl⟩ := H
    go_wp2
    go_ret2
    exact ⟨by first | rfl | (simp; done) | (simp [*]; done), by repeat (first | exact Drawn0.refl _ | apply Drawn0.step)⟩
   ·replace c5 := Bool.eq_false_iff.mpr c5
    subst c5
    have H1 : (if a0 > 9223372036854775807 then (some (0, 10)) else (some (wrap64 (a0), 0))) = some (r1, r2) := by rw [if_neg (show ¬ (false = true) by decide)] at H; exact H
    clear H
    have H := H1
    clear H1
    by_cases c6 : a0 > 9223372036854775807
    ·rw [if_pos c6] at H
     have c6b0 : decide (9223372036854775807 < a0) = true := decide_eq_true c6
     clear c6
     simp only [Option.some.injEq, Prod.mk.injEq] at H
     obtain ⟨rfl, rfl⟩ := H
     go_wp2
     go_ret2
     exact ⟨by first | rfl | (simp; done) | (simp [*]; done), by repeat (first | exact Drawn0.refl _ | apply Drawn0.step)⟩
    ·rw [if_neg c6] at H
     have c6b0 : decide (9223372036854775807 < a0) = false := decide_eq_false c6
     clear c6
     simp only [Option.some.injEq, Prod.mk.injEq] at H
     obtain ⟨rfl, rfl⟩ := H
     go_wp2
     go_ret2
     exact ⟨by first | rfl | (simp; done) | (simp [*]; done), by repeat (first | exact Drawn0.refl _ | apply Drawn0.step)⟩

/-! ### colonnaderef01_product: function 171 -/
def colonnaderef01_product.f (a0 : Int) (a1 : Int) : Option (Int × Int) := some (IntKind.u64.wrap ((IntKind.u64.wrap ((IntKind.u64.wrap ((a0 / 4294967296) * (a1 / 4294967296))) + ((IntKind.u64.wrap ((IntKind.u64.wrap ((a0 / 4294967296) * (Go.bits .and .u64 a1 4294967295))) + ((IntKind.u64.wrap ((Go.bits .and .u64 a0 4294967295) * (Go.bits .and .u64 a1 4294967295))) / 4294967296))) / 4294967296))) + ((IntKind.u64.wrap ((IntKind.u64.wrap ((Go.bits .and .u64 a0 4294967295) * (a1 / 4294967296))) + (Go.bits .and .u64 (IntKind.u64.wrap ((IntKind.u64.wrap ((a0 / 4294967296) * (Go.bits .and .u64 a1 4294967295))) + ((IntKind.u64.wrap ((Go.bits .and .u64 a0 4294967295) * (Go.bits .and .u64 a1 4294967295))) / 4294967296))) 4294967295))) / 4294967296)), Go.bits .or .u64 (IntKind.u64.wrap ((IntKind.u64.wrap ((IntKind.u64.wrap ((Go.bits .and .u64 a0 4294967295) * (a1 / 4294967296))) + (Go.bits .and .u64 (IntKind.u64.wrap ((IntKind.u64.wrap ((a0 / 4294967296) * (Go.bits .and .u64 a1 4294967295))) + ((IntKind.u64.wrap ((Go.bits .and .u64 a0 4294967295) * (Go.bits .and .u64 a1 4294967295))) / 4294967296))) 4294967295))) * 4294967296)) (Go.bits .and .u64 (IntKind.u64.wrap ((Go.bits .and .u64 a0 4294967295) * (Go.bits .and .u64 a1 4294967295))) 4294967295))
set_option maxHeartbeats 8000000 in
set_option maxRecDepth 100000 in
theorem colonnaderef01_product.calls (a0 : Int) (a1 : Int) (r1 : Int) (r2 : Int) (w : World) (h : colonnaderef01_product.f a0 a1 = some (r1, r2)) :
  Calls Tryz.prog 171 #[.int .u64 a0, .int .u64 a1] w fun e w' => e = .returned (.tuple #[.int .u64 r1, .int .u64 r2]) ∧ Drawn0 w w' := by
 have H : (some (IntKind.u64.wrap ((IntKind.u64.wrap ((IntKind.u64.wrap ((a0 / 4294967296) * (a1 / 4294967296))) + ((IntKind.u64.wrap ((IntKind.u64.wrap ((a0 / 4294967296) * (Go.bits .and .u64 a1 4294967295))) + ((IntKind.u64.wrap ((Go.bits .and .u64 a0 4294967295) * (Go.bits .and .u64 a1 4294967295))) / 4294967296))) / 4294967296))) + ((IntKind.u64.wrap ((IntKind.u64.wrap ((Go.bits .and .u64 a0 4294967295) * (a1 / 4294967296))) + (Go.bits .and .u64 (IntKind.u64.wrap ((IntKind.u64.wrap ((a0 / 4294967296) * (Go.bits .and .u64 a1 4294967295))) + ((IntKind.u64.wrap ((Go.bits .and .u64 a0 4294967295) * (Go.bits .and .u64 a1 4294967295))) / 4294967296))) 4294967295))) / 4294967296)), Go.bits .or .u64 (IntKind.u64.wrap ((IntKind.u64.wrap ((IntKind.u64.wrap ((Go.bits .and .u64 a0 4294967295) * (a1 / 4294967296))) + (Go.bits .and .u64 (IntKind.u64.wrap ((IntKind.u64.wrap ((a0 / 4294967296) * (Go.bits .and .u64 a1 4294967295))) + ((IntKind.u64.wrap ((Go.bits .and .u64 a0 4294967295) * (Go.bits .and .u64 a1 4294967295))) / 4294967296))) 4294967295))) * 4294967296)) (Go.bits .and .u64 (IntKind.u64.wrap ((Go.bits .and .u64 a0 4294967295) * (Go.bits .and .u64 a1 4294967295))) 4294967295))) = some (r1, r2) := h
 clear h
 simp only [Option.some.injEq, Prod.mk.injEq] at H
 obtain ⟨rfl, rfl⟩ := H
 go_enter Tryz.func171, Tryz.ntmps171
 go_wp2
 go_ret2
 exact ⟨by first | rfl | (simp; done) | (simp [*]; done), by repeat (first | exact Drawn0.refl _ | apply Drawn0.step)⟩

/-! ### colonnaderef01_Mul: function 139 -/
def colonnaderef01_Mul.f (k : Nat) (a0 : Int) (a1 : Int) : Option (Int × Int) := (colonnaderef01_amount.f a0).bind fun t197 => ((colonnaderef01_amount.f a1).bind fun t198 => ((colonnaderef01_product.f t197 t198).bind fun bt199 => (if bt199.1 = 0 then ((colonnaderef01_signed.f k bt199.2 ((decide (a0 < 0)) != (decide (a1 < 0)))).bind fun bt201 => (some (bt201.1, bt201.2))) else (some (0, 10)))))
theorem colonnaderef01_Mul.mono : ∀ a0 a1 k, LeO (colonnaderef01_Mul.f k a0 a1) (colonnaderef01_Mul.f (k + 1) a0 a1) := by
 intro a0 a1 k
 unfold colonnaderef01_Mul.f
 repeat' first
   | (with_reducible exact colonnaderef01_signed.mono _ _ _)
   | (with_reducible exact LeO.refl _)
   | (with_reducible exact LeO.none _)
   | (with_reducible refine LeO.ite ?_ ?_)
   | (with_reducible refine LeO.bind ?_ (fun _ => ?_))
   | exact colonnaderef01_signed.mono _ _ _
   | exact LeO.none _
   | refine LeO.ite ?_ ?_
   | refine LeO.bind ?_ (fun _ => ?_)
set_option maxHeartbeats 8000000 in
set_option maxRecDepth 100000 in
theorem colonnaderef01_Mul.calls (k : Nat) (a0 : Int) (a1 : Int) (r1 : Int) (r2 : Int) (w : World) (h : colonnaderef01_Mul.f k a0 a1 = some (r1, r2)) :
  Calls Tryz.prog 139 #[.int .i64 a0, .int .i64 a1] w fun e w' => e = .returned (.tuple #[.int .i64 r1, .int .i64 r2]) ∧ Drawn0 w w' := by
 have H : ((colonnaderef01_amount.f a0).bind fun t197 => ((colonnaderef01_amount.f a1).bind fun t198 => ((colonnaderef01_product.f t197 t198).bind fun bt199 => (if bt199.1 = 0 then ((colonnaderef01_signed.f k bt199.2 ((decide (a0 < 0)) != (decide (a1 < 0)))).bind fun bt201 => (some (bt201.1, bt201.2))) else (some (0, 10)))))) = some (r1, r2) := h
 clear h
 replace H := Option.bind_eq_some_iff.mp H
 obtain ⟨t197, A30, H⟩ := H
 replace H : ((colonnaderef01_amount.f a1).bind fun t198 => ((colonnaderef01_product.f t197 t198).bind fun bt199 => (if bt199.1 = 0 then ((colonnaderef01_signed.f k bt199.2 ((decide (a0 < 0)) != (decide (a1 < 0)))).bind fun bt201 => (some (bt201.1, bt201.2))) else (some (0, 10))))) = some (r1, r2) := H
 have A3 := Aside0.mk A30
 clear A30
 replace H := Option.bind_eq_some_iff.mp H
 obtain ⟨t198, A40, H⟩ := H
 replace H : ((colonnaderef01_product.f t197 t198).bind fun bt199 => (if bt199.1 = 0 then ((colonnaderef01_signed.f k bt199.2 ((decide (a0 < 0)) != (decide (a1 < 0)))).bind fun bt201 => (some (bt201.1, bt201.2))) else (some (0, 10)))) = some (r1, r2) := H
 have A4 := Aside0.mk A40
 clear A40
 replace H := Option.bind_eq_some_iff.mp H
 obtain ⟨⟨t199, t200⟩, A50, H⟩ := H
 replace H : (if t199 = 0 then ((colonnaderef01_signed.f k t200 ((decide (a0 < 0)) != (decide (a1 < 0)))).bind fun bt201 => (some (bt201.1, bt201.2))) else (some (0, 10))) = some (r1, r2) := H
 have A5 := Aside0.mk A50
 clear A50
 by_cases c6 : t199 = 0
 ·rw [if_pos c6] at H
  have c6b0 : (t199 == 0) = true := beq_iff_eq.mpr c6
  have c6b1 : (t199 != 0) = false := bne_eq_false_iff_eq.mpr c6
  clear c6
  replace H := Option.bind_eq_some_iff.mp H
  obtain ⟨⟨t201, t202⟩, A70, H⟩ := H
  replace H : (some (t201, t202)) = some (r1, r2) := H
  have A7 := Aside0.mk A70
  clear A70
  simp only [Option.some.injEq, Prod.mk.injEq] at H
  obtain ⟨rfl, rfl⟩ := H
  go_enter Tryz.func139, Tryz.ntmps139
  go_wp2_with (first | ((with_reducible refine gate_callee (f := 95) rfl ?_); refine goesL_ (some 10) rfl rfl Tryz.func95 zF4_24 rfl #[.int .i64 a0] rfl zF4_6 ?_; (with_reducible refine (colonnaderef01_amount.calls a0 t197 _ A3.out).mono ?_); rintro e w' ⟨rfl, ⟨nd, rfl⟩⟩; refine ⟨_, rfl, ?_⟩) | ((with_reducible refine gate_callee (f := 95) rfl ?_); refine goesL_ (some 12) rfl rfl Tryz.func95 zF4_24 rfl #[.int .i64 a1] rfl zF4_6 ?_; (with_reducible refine (colonnaderef01_amount.calls a1 t198 _ A4.out).mono ?_); rintro e w' ⟨rfl, ⟨nd, rfl⟩⟩; refine ⟨_, rfl, ?_⟩) | ((with_reducible refine gate_callee (f := 171) rfl ?_); refine goesL_ (some 13) rfl rfl Tryz.func171 zF4_24 rfl #[.int .u64 t197, .int .u64 t198] rfl zF4_6 ?_; (with_reducible refine (colonnaderef01_product.calls t197 t198 t199 t200 _ A5.out).mono ?_); rintro e w' ⟨rfl, ⟨nd, rfl⟩⟩; refine ⟨_, rfl, ?_⟩) | ((with_reducible refine gate_callee (f := 140) rfl ?_); refine goesL_ (some 24) rfl rfl Tryz.func140 zF4_24 rfl #[.int .u64 t200, .bool ((decide (a0 < 0)) != (decide (a1 < 0)))] rfl zF4_6 ?_; (with_reducible refine (colonnaderef01_signed.calls k t200 ((decide (a0 < 0)) != (decide (a1 < 0))) t201 t202 _ A7.out).mono ?_); rintro e w' ⟨rfl, ⟨nd, rfl⟩⟩; refine ⟨_, rfl, ?_⟩))
  go_ret2
  exact ⟨by first | rfl | (simp; done) | (simp [*]; done), by repeat (first | exact Drawn0.refl _ | apply Drawn0.step)⟩
 ·rw [if_neg c6] at H
  have c6b0 : (t199 == 0) = false := beq_eq_false_iff_ne.mpr c6
  have c6b1 : (t199 != 0) = true := bne_iff_ne.mpr c6
  simp only [Option.some.injEq, Prod.mk.injEq] at H
  obtain ⟨rfl, rfl⟩ := H
  go_enter Tryz.func139, Tryz.ntmps139
  go_wp2_with (first | ((with_reducible refine gate_callee (f := 95) rfl ?_); refine goesL_ (some 10) rfl rfl Tryz.func95 zF4_24 rfl #[.int .i64 a0] rfl zF4_6 ?_; (with_reducible refine (colonnaderef01_amount.calls a0 t197 _ A3.out).mono ?_); rintro e w' ⟨rfl, ⟨nd, rfl⟩⟩; refine ⟨_, rfl, ?_⟩) | ((with_reducible refine gate_callee (f := 95) rfl ?_); refine goesL_ (some 12) rfl rfl Tryz.func95 zF4_24 rfl #[.int .i64 a1] rfl zF4_6 ?_; (with_reducible refine (colonnaderef01_amount.calls a1 t198 _ A4.out).mono ?_); rintro e w' ⟨rfl, ⟨nd, rfl⟩⟩; refine ⟨_, rfl, ?_⟩) | ((with_reducible refine gate_callee (f := 171) rfl ?_); refine goesL_ (some 13) rfl rfl Tryz.func171 zF4_24 rfl #[.int .u64 t197, .int .u64 t198] rfl zF4_6 ?_; (with_reducible refine (colonnaderef01_product.calls t197 t198 t199 t200 _ A5.out).mono ?_); rintro e w' ⟨rfl, ⟨nd, rfl⟩⟩; refine ⟨_, rfl, ?_⟩))
  go_ret2
  exact ⟨by first | rfl | (simp; done) | (simp [*]; done), by repeat (first | exact Drawn0.refl _ | apply Drawn0.step)⟩

end Go.Proofs.YtmeopdjdjmjngaaGreatDoor.F
