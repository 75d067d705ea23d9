/- PRINTED BY A PROGRAM OF THIS SESSION (px.py, over the kit's print): Lean functions with the answers of Go functions of the given program, and proofs that the Go code comes to these answers; each under the conditions that its theorem states. -/
import Derived.Test.YtmeopdjdjmjngaaGreatDoorI0
import Derived.Test.YtmeopdjdjmjngaaGreatDoorI1
import Derived.Test.YtmeopdjdjmjngaaGreatDoorI2
import Derived.Test.YtmeopdjdjmjngaaGreatDoorI4
namespace Go.Proofs.YtmeopdjdjmjngaaGreatDoor.I
open Go.RowKit Go.Proofs.YtmeopdjdjmjngaaGreatDoorW.PrintWords Go.Proofs.YtmeopdjdjmjngaaGreatDoorW.PrintLast Go.Proofs.YtmeopdjdjmjngaaGreatDoorW.PrintMore
attribute [local go_sem] max2_int min2_int max_two min_two max_three min_three max_four min_four   -- for this text's walks alone
set_option linter.unusedVariables false
set_option linter.unusedSimpArgs false

attribute [local go_sem high] eqA36
/-! ### colonnadelaw11_begun: function 12 -/
def colonnadelaw11_begun.f (k : Nat)  : Option (Bool) := (some (([(⟨(⟨#[97]⟩ : ByteArray), (⟨2, 0⟩ : S34), false⟩ : S36), (⟨(⟨#[98]⟩ : ByteArray), (⟨3, 2⟩ : S34), true⟩ : S36)] : List (S36)) : List (S36))).bind fun y198 => ((schema_Fit.f k (⟨#[116]⟩ : ByteArray) y198 (([(⟨(⟨0, 0⟩ : S34), true, 0, (⟨#[]⟩ : ByteArray)⟩ : S41), (⟨(⟨2, 0⟩ : S34), false, 3, (⟨#[]⟩ : ByteArray)⟩ : S41)] : List (S41)))).bind fun bt205 => ((schema_Show.f k (⟨#[116]⟩ : ByteArray) y198).bind fun t209 => (if t209.toList = ([67, 82, 69, 65, 84, 69, 32, 84, 65, 66, 76, 69, 32, 116, 32, 40, 97, 32, 73, 78, 84, 44, 32, 98, 32, 68, 69, 67, 73, 77, 65, 76, 40, 50, 41, 32, 78, 79, 84, 32, 78, 85, 76, 76, 41] : List UInt8) then (if bt205.2 = 0 then (if (bt205.1.length : Int) = 2 then (if 1 < (bt205.1.length : Int) then (some (((rd_T41 bt205.1 1).f2) == 300)) else (none)) else (none)) else (none)) else (none))))
theorem colonnadelaw11_begun.mono : ∀ k, LeO (colonnadelaw11_begun.f k ) (colonnadelaw11_begun.f (k + 1) ) := by
  intro  k
  unfold colonnadelaw11_begun.f
  repeat' first
      | (with_reducible exact schema_Fit.mono _ _ _ _)
      | (with_reducible exact schema_Show.mono _ _ _)
      | (with_reducible exact LeO.refl _)
      | (with_reducible exact LeO.none _)
      | (with_reducible refine LeO.ite ?_ ?_)
      | (with_reducible refine LeO.bind ?_ (fun _ => ?_))
      | exact schema_Fit.mono _ _ _ _
      | exact schema_Show.mono _ _ _
      | exact LeO.none _
      | refine LeO.ite ?_ ?_
      | refine LeO.bind ?_ (fun _ => ?_)
set_option maxHeartbeats 8000000 in
set_option maxRecDepth 100000 in
theorem colonnadelaw11_begun.calls (k : Nat)  (r : Bool) (w : World) (h : colonnadelaw11_begun.f k  = some r) (hG : Gl w) :
    Calls Tryz.prog 12 #[] w fun e w' => e = .returned (.bool r) ∧ Below w.heap.size w w' := by
  have HG := Aside0.mk hG
  clear hG
  have hu34 := Tryz.underlying34
  have hu36 := Tryz.underlying36
  have hu24 := Tryz.underlying24
  have hu41 := Tryz.underlying41
  have HB := Aside0.mk (Below.refl w.heap.size w)
  have H : ((some (([(⟨(⟨#[97]⟩ : ByteArray), (⟨2, 0⟩ : S34), false⟩ : S36), (⟨(⟨#[98]⟩ : ByteArray), (⟨3, 2⟩ : S34), true⟩ : S36)] : List (S36)) : List (S36))).bind fun y198 => ((schema_Fit.f k (⟨#[116]⟩ : ByteArray) y198 (([(⟨(⟨0, 0⟩ : S34), true, 0, (⟨#[]⟩ : ByteArray)⟩ : S41), (⟨(⟨2, 0⟩ : S34), false, 3, (⟨#[]⟩ : ByteArray)⟩ : S41)] : List (S41)))).bind fun bt205 => ((schema_Show.f k (⟨#[116]⟩ : ByteArray) y198).bind fun t209 => (if t209.toList = ([67, 82, 69, 65, 84, 69, 32, 84, 65, 66, 76, 69, 32, 116, 32, 40, 97, 32, 73, 78, 84, 44, 32, 98, 32, 68, 69, 67, 73, 77, 65, 76, 40, 50, 41, 32, 78, 79, 84, 32, 78, 85, 76, 76, 41] : List UInt8) then (if bt205.2 = 0 then (if (bt205.1.length : Int) = 2 then (if 1 < (bt205.1.length : Int) then (some (((rd_T41 bt205.1 1).f2) == 300)) else (none)) else (none)) else (none)) else (none))))) = some r := h
  clear h
  obtain ⟨y198, hy198⟩ : ∃ y_ : List (S36), y_ = (([(⟨(⟨#[97]⟩ : ByteArray), (⟨2, 0⟩ : S34), false⟩ : S36), (⟨(⟨#[98]⟩ : ByteArray), (⟨3, 2⟩ : S34), true⟩ : S36)] : List (S36))) := ⟨_, rfl⟩
  replace H : ((schema_Fit.f k (⟨#[116]⟩ : ByteArray) y198 (([(⟨(⟨0, 0⟩ : S34), true, 0, (⟨#[]⟩ : ByteArray)⟩ : S41), (⟨(⟨2, 0⟩ : S34), false, 3, (⟨#[]⟩ : ByteArray)⟩ : S41)] : List (S41)))).bind fun bt205 => ((schema_Show.f k (⟨#[116]⟩ : ByteArray) y198).bind fun t209 => (if t209.toList = ([67, 82, 69, 65, 84, 69, 32, 84, 65, 66, 76, 69, 32, 116, 32, 40, 97, 32, 73, 78, 84, 44, 32, 98, 32, 68, 69, 67, 73, 77, 65, 76, 40, 50, 41, 32, 78, 79, 84, 32, 78, 85, 76, 76, 41] : List UInt8) then (if bt205.2 = 0 then (if (bt205.1.length : Int) = 2 then (if 1 < (bt205.1.length : Int) then (some (((rd_T41 bt205.1 1).f2) == 300)) else (none)) else (none)) else (none)) else (none)))) = some r := by first | (rw [hy198]; with_reducible exact H) | (have H2_ := (Option.bind_some _ _).symm.trans H; rw [hy198]; with_reducible exact H2_) | (have H2_ := (Option.bind_some _ _).symm.trans H; with_reducible exact H2_) | with_reducible exact H | (rw [hy198]; exact H) | exact H
  have Ny198 := Aside0.mk hy198
  clear hy198
  obtain ⟨y202, hy202⟩ : ∃ y_ : List (S41), y_ = (([(⟨(⟨0, 0⟩ : S34), true, 0, (⟨#[]⟩ : ByteArray)⟩ : S41), (⟨(⟨2, 0⟩ : S34), false, 3, (⟨#[]⟩ : ByteArray)⟩ : S41)] : List (S41))) := ⟨_, rfl⟩
  replace H : ((schema_Fit.f k (⟨#[116]⟩ : ByteArray) y198 y202).bind fun bt205 => ((schema_Show.f k (⟨#[116]⟩ : ByteArray) y198).bind fun t209 => (if t209.toList = ([67, 82, 69, 65, 84, 69, 32, 84, 65, 66, 76, 69, 32, 116, 32, 40, 97, 32, 73, 78, 84, 44, 32, 98, 32, 68, 69, 67, 73, 77, 65, 76, 40, 50, 41, 32, 78, 79, 84, 32, 78, 85, 76, 76, 41] : List UInt8) then (if bt205.2 = 0 then (if (bt205.1.length : Int) = 2 then (if 1 < (bt205.1.length : Int) then (some (((rd_T41 bt205.1 1).f2) == 300)) else (none)) else (none)) else (none)) else (none)))) = some r := by first | (rw [hy202]; with_reducible exact H) | (have H2_ := (Option.bind_some _ _).symm.trans H; rw [hy202]; with_reducible exact H2_) | (have H2_ := (Option.bind_some _ _).symm.trans H; with_reducible exact H2_) | with_reducible exact H | (rw [hy202]; exact H) | exact H
  have Ny202 := Aside0.mk hy202
  clear hy202
  replace H := Option.bind_eq_some_iff.mp H
  obtain ⟨⟨t205, t208⟩, A10, H⟩ := H
  replace H : ((schema_Show.f k (⟨#[116]⟩ : ByteArray) y198).bind fun t209 => (if t209.toList = ([67, 82, 69, 65, 84, 69, 32, 84, 65, 66, 76, 69, 32, 116, 32, 40, 97, 32, 73, 78, 84, 44, 32, 98, 32, 68, 69, 67, 73, 77, 65, 76, 40, 50, 41, 32, 78, 79, 84, 32, 78, 85, 76, 76, 41] : List UInt8) then (if t208 = 0 then (if (t205.length : Int) = 2 then (if 1 < (t205.length : Int) then (some (((rd_T41 t205 1).f2) == 300)) else (none)) else (none)) else (none)) else (none))) = some r := H
  have A1 := Aside0.mk A10
  clear A10
  replace H := Option.bind_eq_some_iff.mp H
  obtain ⟨t209, A20, H⟩ := H
  replace H : (if t209.toList = ([67, 82, 69, 65, 84, 69, 32, 84, 65, 66, 76, 69, 32, 116, 32, 40, 97, 32, 73, 78, 84, 44, 32, 98, 32, 68, 69, 67, 73, 77, 65, 76, 40, 50, 41, 32, 78, 79, 84, 32, 78, 85, 76, 76, 41] : List UInt8) then (if t208 = 0 then (if (t205.length : Int) = 2 then (if 1 < (t205.length : Int) then (some (((rd_T41 t205 1).f2) == 300)) else (none)) else (none)) else (none)) else (none)) = some r := H
  have A2 := Aside0.mk A20
  clear A20
  by_cases c3 : t209.toList = ([67, 82, 69, 65, 84, 69, 32, 84, 65, 66, 76, 69, 32, 116, 32, 40, 97, 32, 73, 78, 84, 44, 32, 98, 32, 68, 69, 67, 73, 77, 65, 76, 40, 50, 41, 32, 78, 79, 84, 32, 78, 85, 76, 76, 41] : List UInt8)
  · rw [if_pos c3] at H
    have c3b0 : (t209.toList == ([67, 82, 69, 65, 84, 69, 32, 84, 65, 66, 76, 69, 32, 116, 32, 40, 97, 32, 73, 78, 84, 44, 32, 98, 32, 68, 69, 67, 73, 77, 65, 76, 40, 50, 41, 32, 78, 79, 84, 32, 78, 85, 76, 76, 41] : List UInt8)) = true := beq_iff_eq.mpr c3
    have c3b1 : (t209.toList != ([67, 82, 69, 65, 84, 69, 32, 84, 65, 66, 76, 69, 32, 116, 32, 40, 97, 32, 73, 78, 84, 44, 32, 98, 32, 68, 69, 67, 73, 77, 65, 76, 40, 50, 41, 32, 78, 79, 84, 32, 78, 85, 76, 76, 41] : List UInt8)) = false := bne_eq_false_iff_eq.mpr c3
    clear c3
    by_cases c4 : t208 = 0
    · rw [if_pos c4] at H
      have c4b0 : (t208 == 0) = true := beq_iff_eq.mpr c4
      have c4b1 : (t208 != 0) = false := bne_eq_false_iff_eq.mpr c4
      clear c4
      by_cases c5 : (t205.length : Int) = 2
      · rw [if_pos c5] at H
        have c5b0 : ((t205.length : Int) == 2) = true := beq_iff_eq.mpr c5
        have c5b1 : ((t205.length : Int) != 2) = false := bne_eq_false_iff_eq.mpr c5
        clear c5
        by_cases c6 : 1 < (t205.length : Int)
        · rw [if_pos c6] at H
          have c6b0 : decide (1 < (t205.length : Int)) = true := decide_eq_true c6
          have c6b1 : decide (1 < t205.length) = true := decide_eq_true (by omega)
          clear c6
          obtain rfl := Option.some.inj H
          go_enter Tryz.func12, Tryz.ntmps12
          go_wp2_with (first | ((with_reducible refine gate_dst (N := 8) rfl ?_); (try (refine gate_guard (by rfl) ?_; dsimp only)); refine Kd.R_lit k36 _ 36 ?hg (N := 8) ?hd (xs := ([(⟨(⟨#[97]⟩ : ByteArray), (⟨2, 0⟩ : S34), false⟩ : S36), (⟨(⟨#[98]⟩ : ByteArray), (⟨3, 2⟩ : S34), true⟩ : S36)] : List (S36))) (inner := [.string (⟨#[97]⟩ : ByteArray), .int .i64 2, .int .i64 0, .bool false, .string (⟨#[98]⟩ : ByteArray), .int .i64 3, .int .i64 2, .bool true]) (ok := fun _ => True) (okp := fun _ => True) ?hr ?hp (fun _ hk => hk) trivial (Below.refl _ _) (Nat.le_refl _) (by simp) ?_; (case hd => rfl); (case hg => rfl); (case hr => first | (go_simp; done) | (go_simp; rfl)); (case hp => exact (Reps.c4 (show Kd.M k36 _ _ _ (⟨(⟨#[97]⟩ : ByteArray), (⟨2, 0⟩ : S34), false⟩ : S36) [.string (⟨#[97]⟩ : ByteArray), .int .i64 2, .int .i64 0, .bool false] from (k36_mkM _ _ _ (⟨(⟨#[97]⟩ : ByteArray), (⟨2, 0⟩ : S34), false⟩ : S36) )) (Reps.c4 (show Kd.M k36 _ _ _ (⟨(⟨#[98]⟩ : ByteArray), (⟨3, 2⟩ : S34), true⟩ : S36) [.string (⟨#[98]⟩ : ByteArray), .int .i64 3, .int .i64 2, .bool true] from (k36_mkM _ _ _ (⟨(⟨#[98]⟩ : ByteArray), (⟨3, 2⟩ : S34), true⟩ : S36) )) (Reps.none _ _)))); intro v199 w7 ho8 hb hg_ hnew_; clear hg_ hnew_; (first | rw [← Ny198.out] at ho8 | (simp only [Int.reduceToNat] at ho8; rw [← Ny198.out] at ho8)); have n0_ := Aside0.mk (Kd.R_lower ho8 (below_size (by repeat (first | (with_reducible first | exact HB.out | apply below_alloc | apply pw_below_drewN | apply below_drew1) | exact HB.out)))); have n1_ := Aside0.mk (below_step (by repeat (first | (with_reducible first | exact HB.out | apply below_alloc | apply pw_below_drewN | apply below_drew1) | exact HB.out)) hb); clear HB; have HO200 := n0_; have HB := n1_; clear n0_ n1_; clear hb ho8; obtain ⟨Ao9, co9, eo9⟩ := Kd.R_slice HO200.out; subst eo9) | ((with_reducible refine gate_dst (N := 1) rfl ?_); (try (refine gate_guard (by rfl) ?_; dsimp only)); refine box_event ?hg (N := 1) ?hd (cs := #[.string (⟨#[]⟩ : ByteArray), .slice none 0 0]) (t := 24) ?hr ?_; (case hd => rfl); (case hg => rfl); (case hr => first | (go_simp; done) | (go_simp; rfl)); intro gb201 hg w10 hbox hb; have n0_ := Aside0.mk (Kd.R_below (by (with_reducible repeat (first | apply Kd.R_alloc | apply Kd.R_drewN | apply Kd.R_drew)); exact HO200.out) hb); have n1_ := Aside0.mk (below_step (by repeat (first | (with_reducible first | exact HB.out | apply below_alloc | apply pw_below_drewN | apply below_drew1) | exact HB.out)) hb); have n2_ := Aside0.mk (hbox); have n3_ := Aside0.mk ((by rw [hg]; exact (below_size (by repeat (first | (with_reducible first | exact HB.out | apply below_alloc | apply pw_below_drewN | apply below_drew1) | exact HB.out))) : w.heap.size ≤ gb201)); have n4_ := Aside0.mk ((by rw [hg]; exact (below_size (by repeat (first | (with_reducible first | exact HB.out | apply below_alloc | apply pw_below_drewN | apply below_drew1) | exact HB.out))) : w.heap.size ≤ gb201)); clear HO200; clear HB; have HO200 := n0_; have HB := n1_; have BK201 := n2_; have GW201 := n3_; have GE201 := n4_; clear n0_ n1_ n2_ n3_ n4_; clear hb hbox hg; have hcz11_0 : w10.cell? ⟨gb201, 0, none⟩ = some (.string (⟨#[]⟩ : ByteArray)) := (blk_cell BK201.out 0).trans rfl; have hcz11_1 : w10.cell? ⟨gb201, 1, none⟩ = some (.slice none 0 0) := (blk_cell BK201.out 1).trans rfl; have hfz11_0 := blk_frozen BK201.out 0; have hfz11_1 := blk_frozen BK201.out 1) | ((with_reducible refine gate_dst (N := 15) rfl ?_); (try (refine gate_guard (by rfl) ?_; dsimp only)); refine Kd.R_lit k41 _ 41 ?hg (N := 15) ?hd (xs := ([(⟨(⟨0, 0⟩ : S34), true, 0, (⟨#[]⟩ : ByteArray)⟩ : S41), (⟨(⟨2, 0⟩ : S34), false, 3, (⟨#[]⟩ : ByteArray)⟩ : S41)] : List (S41))) (inner := [.int .i64 0, .int .i64 0, .bool true, .int .i64 0, .string (⟨#[]⟩ : ByteArray), .int .i64 2, .int .i64 0, .bool false, .int .i64 3, .string (⟨#[]⟩ : ByteArray)]) (ok := fun _ => True) (okp := fun _ => True) ?hr ?hp (fun _ hk => hk) trivial (Below.refl _ _) (Nat.le_refl _) (by simp) ?_; (case hd => rfl); (case hg => rfl); (case hr => first | (go_simp; done) | (go_simp; rfl)); (case hp => exact (Reps.c5 (show Kd.M k41 _ _ _ (⟨(⟨0, 0⟩ : S34), true, 0, (⟨#[]⟩ : ByteArray)⟩ : S41) [.int .i64 0, .int .i64 0, .bool true, .int .i64 0, .string (⟨#[]⟩ : ByteArray)] from (k41_mkM _ _ _ (⟨(⟨0, 0⟩ : S34), true, 0, (⟨#[]⟩ : ByteArray)⟩ : S41) )) (Reps.c5 (show Kd.M k41 _ _ _ (⟨(⟨2, 0⟩ : S34), false, 3, (⟨#[]⟩ : ByteArray)⟩ : S41) [.int .i64 2, .int .i64 0, .bool false, .int .i64 3, .string (⟨#[]⟩ : ByteArray)] from (k41_mkM _ _ _ (⟨(⟨2, 0⟩ : S34), false, 3, (⟨#[]⟩ : ByteArray)⟩ : S41) )) (Reps.none _ _)))); intro v203 w12 ho13 hb hg_ hnew_; clear hg_ hnew_; (first | rw [← Ny202.out] at ho13 | (simp only [Int.reduceToNat] at ho13; rw [← Ny202.out] at ho13)); have n0_ := Aside0.mk (Kd.R_below (by (with_reducible repeat (first | apply Kd.R_alloc | apply Kd.R_drewN | apply Kd.R_drew)); exact (Kd.R_mono (Kd.R_far (p := ⟨gb201, 1, none⟩) (Kd.R_far (p := ⟨gb201, 0, none⟩) (Kd.R_types HO200.out BK201.out (by decide)) (fun _ hk => hk.2) (.string (⟨#[116]⟩ : ByteArray))) (fun _ hk => hk.2) (.slice Ao9 y198.length co9)) (fun _ h_ => h_.1))) hb); have n1_ := Aside0.mk (Kd.R_lower ho13 (below_size (by repeat (first | (with_reducible first | exact HB.out | apply below_alloc | apply pw_below_drewN | apply below_drew1 | refine below_set ?_ GE201.out) | exact HB.out)))); have n2_ := Aside0.mk (blk_below (g := gb201) (o := .cells #[.string (⟨#[116]⟩ : ByteArray), .slice Ao9 y198.length co9] 24 (0, 0)) (by (with_reducible repeat (first | refine blk_drewN ?_ _ | refine blk_drew ?_ | refine blk_alloc ?_ _)); refine blk_put (cs := #[.string (⟨#[116]⟩ : ByteArray), .slice none 0 0]) ?_ 1 _ rfl; (with_reducible repeat (first | refine blk_drewN ?_ _ | refine blk_drew ?_ | refine blk_alloc ?_ _)); refine blk_put (cs := #[.string (⟨#[]⟩ : ByteArray), .slice none 0 0]) ?_ 0 _ rfl; (with_reducible repeat (first | refine blk_drewN ?_ _ | refine blk_drew ?_ | refine blk_alloc ?_ _)); exact BK201.out) hb); have n3_ := Aside0.mk (below_step (by repeat (first | (with_reducible first | exact HB.out | apply below_alloc | apply pw_below_drewN | apply below_drew1 | refine below_set ?_ GE201.out) | exact HB.out)) hb); clear HO200; clear BK201; clear HB; have HO200 := n0_; have HO204 := n1_; have BK201 := n2_; have HB := n3_; clear n0_ n1_ n2_ n3_; clear hb ho13; obtain ⟨Ao14, co14, eo14⟩ := Kd.R_slice HO204.out; subst eo14) | ((with_reducible refine gate_callee (f := 10) rfl ?_); refine goesL_ (some 16) rfl rfl Tryz.func10 (by kernel_rfl) rfl #[.agg #[.string (⟨#[116]⟩ : ByteArray), .slice Ao9 y198.length co9], .slice Ao14 y202.length co14] rfl (by (try simp only [List.map_toArray, List.map_cons, List.map_nil]); first | done | rfl | (simp only [List.length_drop, List.length_take]; rfl)) ?_; (with_reducible refine (schema_Fit.calls k (⟨#[116]⟩ : ByteArray) _ _ y198 _ _ y202 t205 t208 _ ?side1 ?side2 ?side3 ?side4 A1.out).mono ?_); (case side1 => repeat (first | exact (Kd.R_reads' HO200.out).2.2 | (with_reducible refine Kd.C_alloc ?_ _) | (with_reducible refine Kd.C_drewN ?_ _) | (with_reducible refine Kd.C_drew ?_))); (case side2 => exact (Kd.R_reads' HO200.out).2.1); (case side3 => repeat (first | exact (Kd.R_reads' HO204.out).2.2 | (with_reducible refine Kd.C_alloc ?_ _) | (with_reducible refine Kd.C_drewN ?_ _) | (with_reducible refine Kd.C_drew ?_))); (case side4 => exact (Kd.R_reads' HO204.out).2.1); rintro e w15 ⟨v206, rfl, ho0, hb⟩; refine ⟨_, rfl, ?_⟩; have n0_ := Aside0.mk (Kd.R_below (by (with_reducible repeat (first | apply Kd.R_alloc | apply Kd.R_drewN | apply Kd.R_drew)); exact HO200.out) hb); have n1_ := Aside0.mk (Kd.R_elder' (by (with_reducible repeat (first | apply Kd.R_alloc | apply Kd.R_drewN | apply Kd.R_drew)); exact HO204.out) (Kd.R_base ho0) hb); have n2_ := Aside0.mk (Kd.R_lower (Kd.R_new' ho0 (Kd.R_lt (by (with_reducible repeat (first | apply Kd.R_alloc | apply Kd.R_drewN | apply Kd.R_drew)); exact HO204.out))) (below_size (by repeat (first | (with_reducible first | exact HB.out | apply below_alloc | apply pw_below_drewN | apply below_drew1 | refine below_set ?_ GE201.out) | exact HB.out)))); have n3_ := Aside0.mk (blk_below (g := gb201) (o := .cells #[.string (⟨#[116]⟩ : ByteArray), .slice Ao9 y198.length co9] 24 (0, 0)) (by (with_reducible repeat (first | refine blk_drewN ?_ _ | refine blk_drew ?_ | refine blk_alloc ?_ _)); exact BK201.out) hb); have n4_ := Aside0.mk (below_step (by repeat (first | (with_reducible first | exact HB.out | apply below_alloc | apply pw_below_drewN | apply below_drew1 | refine below_set ?_ GE201.out) | exact HB.out)) hb); clear HO200; clear HO204; clear BK201; clear HB; have HO200 := n0_; have HO204 := n1_; have HO207 := n2_; have BK201 := n3_; have HB := n4_; clear n0_ n1_ n2_ n3_ n4_; (try clear hb); (try clear hb2); (try clear hk); (try clear hi); (try clear ho0); have hcz16_0 : w15.cell? ⟨gb201, 0, none⟩ = some (.string (⟨#[116]⟩ : ByteArray)) := (blk_cell BK201.out 0).trans rfl; have hcz16_1 : w15.cell? ⟨gb201, 1, none⟩ = some (.slice Ao9 y198.length co9) := (blk_cell BK201.out 1).trans rfl; have hfz16_0 := blk_frozen BK201.out 0; have hfz16_1 := blk_frozen BK201.out 1) | ((with_reducible refine gate_callee (f := 16) rfl ?_); refine goesL_ (some 20) rfl rfl Tryz.func16 (by kernel_rfl) rfl #[.agg #[.string (⟨#[116]⟩ : ByteArray), .slice Ao9 y198.length co9]] rfl (by (try simp only [List.map_toArray, List.map_cons, List.map_nil]); first | done | rfl | (simp only [List.length_drop, List.length_take]; rfl)) ?_; (with_reducible refine (schema_Show.calls k (⟨#[116]⟩ : ByteArray) _ _ y198 t209 _ ?side1 ?side2 A2.out (Gl.of HG.out (by repeat (first | exact HB.out | apply below_alloc | apply pw_below_drewN | apply below_drew1 | refine below_set ?_ GE201.out)))).mono ?_); (case side1 => repeat (first | exact (Kd.R_reads' HO200.out).2.2 | (with_reducible refine Kd.C_alloc ?_ _) | (with_reducible refine Kd.C_drewN ?_ _) | (with_reducible refine Kd.C_drew ?_))); (case side2 => exact (Kd.R_reads' HO200.out).2.1); rintro e w17 ⟨rfl, hb⟩; refine ⟨_, rfl, ?_⟩; have n0_ := Aside0.mk (Kd.R_below (by (with_reducible repeat (first | apply Kd.R_alloc | apply Kd.R_drewN | apply Kd.R_drew)); exact HO200.out) hb); have n1_ := Aside0.mk (Kd.R_below (by (with_reducible repeat (first | apply Kd.R_alloc | apply Kd.R_drewN | apply Kd.R_drew)); exact HO204.out) hb); have n2_ := Aside0.mk (Kd.R_below (by (with_reducible repeat (first | apply Kd.R_alloc | apply Kd.R_drewN | apply Kd.R_drew)); exact HO207.out) hb); have n3_ := Aside0.mk (blk_below (g := gb201) (o := .cells #[.string (⟨#[116]⟩ : ByteArray), .slice Ao9 y198.length co9] 24 (0, 0)) (by (with_reducible repeat (first | refine blk_drewN ?_ _ | refine blk_drew ?_ | refine blk_alloc ?_ _)); exact BK201.out) hb); have n4_ := Aside0.mk (below_step (by repeat (first | (with_reducible first | exact HB.out | apply below_alloc | apply pw_below_drewN | apply below_drew1 | refine below_set ?_ GE201.out) | exact HB.out)) hb); clear HO200; clear HO204; clear HO207; clear BK201; clear HB; have HO200 := n0_; have HO204 := n1_; have HO207 := n2_; have BK201 := n3_; have HB := n4_; clear n0_ n1_ n2_ n3_ n4_; (try clear hb); (try clear hb2); (try clear hk); (try clear hi); obtain ⟨Ao18, co18, eo18⟩ := Kd.R_slice HO207.out; subst eo18; have p210 : 0 ≤ (1 : Int) := (by omega); have q210 : 1 < (t205.length : Int) := of_decide_eq_true (by first | (with_reducible assumption) | assumption); obtain ⟨ad210, e210, hx210_0, hx210_1, hx210_2, hx210_3, hx210_4⟩ := at_T41 (Kd.R_reads' HO207.out).2.2 1 p210 q210; cases e210; (try simp only [show (1 : Int).toNat = 1 from rfl, Nat.reduceMul, Nat.reduceEqDiff, Go.Addr.add, ↓reduceIte] at hx210_0); (try simp only [show (1 : Int).toNat = 1 from rfl, Nat.reduceMul, Nat.reduceEqDiff, Go.Addr.add, ↓reduceIte] at hx210_1); (try simp only [show (1 : Int).toNat = 1 from rfl, Nat.reduceMul, Nat.reduceEqDiff, Go.Addr.add, ↓reduceIte] at hx210_2); (try simp only [show (1 : Int).toNat = 1 from rfl, Nat.reduceMul, Nat.reduceEqDiff, Go.Addr.add, ↓reduceIte] at hx210_3); (try simp only [show (1 : Int).toNat = 1 from rfl, Nat.reduceMul, Nat.reduceEqDiff, Go.Addr.add, ↓reduceIte] at hx210_4); have qi210 : (1 < t205.length) = True := eq_true (by omega); (try rw [show ((1 : Int)).toNat = 1 from rfl] at hx210_0); (try rw [show 1 * 5 = 5 from rfl] at hx210_0); (try rw [show ((1 : Int)).toNat = 1 from rfl] at hx210_1); (try rw [show 1 * 5 = 5 from rfl] at hx210_1); (try rw [show ((1 : Int)).toNat = 1 from rfl] at hx210_2); (try rw [show 1 * 5 = 5 from rfl] at hx210_2); (try rw [show ((1 : Int)).toNat = 1 from rfl] at hx210_3); (try rw [show 1 * 5 = 5 from rfl] at hx210_3); (try rw [show ((1 : Int)).toNat = 1 from rfl] at hx210_4); (try rw [show 1 * 5 = 5 from rfl] at hx210_4); replace p210 := eq_true p210; replace q210 := eq_true q210))
          go_ret
          exact ⟨by first | rfl | (simp [errW_none, errW_some] <;> rfl) | (simp [*, errW_none, errW_some] <;> rfl), by repeat (first | (with_reducible first | exact HB.out | apply below_alloc | apply pw_below_drewN | apply below_drew1 | refine below_set ?_ GE201.out) | exact HB.out)⟩
        · rw [if_neg c6] at H
          exact absurd H (by simp)
      · rw [if_neg c5] at H
        exact absurd H (by simp)
    · rw [if_neg c4] at H
      exact absurd H (by simp)
  · rw [if_neg c3] at H
    exact absurd H (by simp)

/-! ### colonnaderef11_Same: function 31 -/
mutual
def colonnaderef11_Same.j0 : Nat → Bool → ByteArray → List (S36) → ByteArray → List (S36) → Option (Bool)
  | 0, _, _, _, _, _ => none
  | k + 1, x19, x212000, x212001, x213000, x213001 => if x19 = true then (some false) else (colonnaderef11_Same.l0 k 0 x212000 x212001 x213000 x213001)
def colonnaderef11_Same.l0 : Nat → Int → ByteArray → List (S36) → ByteArray → List (S36) → Option (Bool)
  | 0, _, _, _, _, _ => none
  | k + 1, x5, x212000, x212001, x213000, x213001 => if x5 < (x212001.length : Int) then (if 0 ≤ x5 then (if x5 < (x213001.length : Int) then (if (!((((rd_T36 x212001 x5).f0).toList) == (((rd_T36 x213001 x5).f0).toList)) || ((!(((rd_T36 x212001 x5).f1.f0) == ((rd_T36 x213001 x5).f1.f0)) || (!(((rd_T36 x212001 x5).f1.f1) == ((rd_T36 x213001 x5).f1.f1)))) || (!(((rd_T36 x212001 x5).f2) == ((rd_T36 x213001 x5).f2))))) = true then (some false) else (colonnaderef11_Same.l0 k (wrap64 (x5 + 1)) x212000 x212001 x213000 x213001)) else (none)) else (none)) else (some true)
end
def colonnaderef11_Same.f (k : Nat) (a0_0 : ByteArray) (l0_1 : List (S36)) (a1_0 : ByteArray) (l1_1 : List (S36)) : Option (Bool) := if a0_0.toList = a1_0.toList then (colonnaderef11_Same.j0 k ((l0_1.length : Int) != (l1_1.length : Int)) a0_0 l0_1 a1_0 l1_1) else (colonnaderef11_Same.j0 k true a0_0 l0_1 a1_0 l1_1)
theorem colonnaderef11_Same.mono_l : ∀ k, (∀ y0 y1 y2 y3 y4, LeO (colonnaderef11_Same.j0 k y0 y1 y2 y3 y4) (colonnaderef11_Same.j0 (k + 1) y0 y1 y2 y3 y4)) ∧ (∀ y0 y1 y2 y3 y4, LeO (colonnaderef11_Same.l0 k y0 y1 y2 y3 y4) (colonnaderef11_Same.l0 (k + 1) y0 y1 y2 y3 y4))
  | 0 => ⟨fun _ _ _ _ _ r h => by simp [colonnaderef11_Same.j0] at h, fun _ _ _ _ _ r h => by simp [colonnaderef11_Same.l0] at h⟩
  | k + 1 => by
    obtain ⟨ih0, ih1⟩ := colonnaderef11_Same.mono_l k
    refine ⟨?_, ?_⟩
    · intro y0 y1 y2 y3 y4
      unfold colonnaderef11_Same.j0
      repeat' first
      | (with_reducible exact ih0 _ _ _ _ _)
      | (with_reducible exact ih1 _ _ _ _ _)
      | (with_reducible exact LeO.refl _)
      | (with_reducible exact LeO.none _)
      | (with_reducible refine LeO.ite ?_ ?_)
      | (with_reducible refine LeO.bind ?_ (fun _ => ?_))
      | exact ih0 _ _ _ _ _
      | exact ih1 _ _ _ _ _
      | exact LeO.none _
      | refine LeO.ite ?_ ?_
      | refine LeO.bind ?_ (fun _ => ?_)
    · intro y0 y1 y2 y3 y4
      unfold colonnaderef11_Same.l0
      repeat' first
      | (with_reducible exact ih0 _ _ _ _ _)
      | (with_reducible exact ih1 _ _ _ _ _)
      | (with_reducible exact LeO.refl _)
      | (with_reducible exact LeO.none _)
      | (with_reducible refine LeO.ite ?_ ?_)
      | (with_reducible refine LeO.bind ?_ (fun _ => ?_))
      | exact ih0 _ _ _ _ _
      | exact ih1 _ _ _ _ _
      | exact LeO.none _
      | refine LeO.ite ?_ ?_
      | refine LeO.bind ?_ (fun _ => ?_)
theorem colonnaderef11_Same.mono : ∀ a0 a1 a2 a3 k, LeO (colonnaderef11_Same.f k a0 a1 a2 a3) (colonnaderef11_Same.f (k + 1) a0 a1 a2 a3) := by
  intro a0 a1 a2 a3 k
  obtain ⟨ih0, ih1⟩ := colonnaderef11_Same.mono_l k
  unfold colonnaderef11_Same.f
  repeat' first
      | (with_reducible exact ih0 _ _ _ _ _)
      | (with_reducible exact ih1 _ _ _ _ _)
      | (with_reducible exact LeO.refl _)
      | (with_reducible exact LeO.none _)
      | (with_reducible refine LeO.ite ?_ ?_)
      | (with_reducible refine LeO.bind ?_ (fun _ => ?_))
      | exact ih0 _ _ _ _ _
      | exact ih1 _ _ _ _ _
      | exact LeO.none _
      | refine LeO.ite ?_ ?_
      | refine LeO.bind ?_ (fun _ => ?_)
set_option maxHeartbeats 8000000 in
set_option maxRecDepth 100000 in
theorem colonnaderef11_Same.calls (k : Nat) (a0_0 : ByteArray) (A0_1 : Option Addr) (c0_1 : Nat) (l0_1 : List (S36)) (a1_0 : ByteArray) (A1_1 : Option Addr) (c1_1 : Nat) (l1_1 : List (S36)) (r : Bool) (w : World) (hr0_1 : Kd.C k36 w A0_1 l0_1.length l0_1) (hc0_1 : l0_1.length ≤ c0_1) (hr1_1 : Kd.C k36 w A1_1 l1_1.length l1_1) (hc1_1 : l1_1.length ≤ c1_1) (h : colonnaderef11_Same.f k a0_0 l0_1 a1_0 l1_1 = some r) :
    Calls Tryz.prog 31 #[.agg #[.string a0_0, .slice A0_1 l0_1.length c0_1], .agg #[.string a1_0, .slice A1_1 l1_1.length c1_1]] w fun e w' => e = .returned (.bool r) ∧ Below w.heap.size w w' := by
  have hu24 := Tryz.underlying24
  have hu36 := Tryz.underlying36
  have HR0_1 := Aside0.mk hr0_1
  have HC0_1 := Aside0.mk hc0_1
  clear hr0_1 hc0_1
  have HR1_1 := Aside0.mk hr1_1
  have HC1_1 := Aside0.mk hc1_1
  clear hr1_1 hc1_1
  have HB := Aside0.mk (Below.refl w.heap.size w)
  have H : (if a0_0.toList = a1_0.toList then (colonnaderef11_Same.j0 k ((l0_1.length : Int) != (l1_1.length : Int)) a0_0 l0_1 a1_0 l1_1) else (colonnaderef11_Same.j0 k true a0_0 l0_1 a1_0 l1_1)) = some r := h
  clear h
  have HC3 := Aside0.mk H
  clear H
  go_enter Tryz.func31, Tryz.ntmps31
  go_upto_region 1 with (first | ((with_reducible refine gate_dst (N := 2) rfl ?_); (try (refine gate_guard (by rfl) ?_; dsimp only)); refine box_event ?hg (N := 2) ?hd (cs := #[.string a0_0, .slice A0_1 l0_1.length c0_1]) (t := 24) ?hr ?_; (case hd => rfl); (case hg => rfl); (case hr => first | (go_simp; done) | (go_simp; rfl)); intro gb211 hg w4 hbox hb; have n0_ := Aside0.mk (below_step (by repeat (first | (with_reducible first | exact HB.out | apply below_alloc | apply pw_below_drewN | apply below_drew1) | exact HB.out)) hb); have n1_ := Aside0.mk (hbox); have n2_ := Aside0.mk ((by rw [hg]; exact (below_size (by repeat (first | (with_reducible first | exact HB.out | apply below_alloc | apply pw_below_drewN | apply below_drew1) | exact HB.out))) : w.heap.size ≤ gb211)); have n3_ := Aside0.mk ((by rw [hg]; exact (below_size (by repeat (first | (with_reducible first | exact HB.out | apply below_alloc | apply pw_below_drewN | apply below_drew1) | exact HB.out))) : w.heap.size ≤ gb211)); clear HB; have HB := n0_; have BK211 := n1_; have GW211 := n2_; have GE211 := n3_; clear n0_ n1_ n2_ n3_; clear hb hbox hg) | ((with_reducible refine gate_dst (N := 3) rfl ?_); (try (refine gate_guard (by rfl) ?_; dsimp only)); refine box_event ?hg (N := 3) ?hd (cs := #[.string a1_0, .slice A1_1 l1_1.length c1_1]) (t := 24) ?hr ?_; (case hd => rfl); (case hg => rfl); (case hr => first | (go_simp; done) | (go_simp; rfl)); intro gb212 hg w5 hbox hb; have n0_ := Aside0.mk (blk_below (g := gb211) (o := .cells #[.string a0_0, .slice A0_1 l0_1.length c0_1] 24 (0, 0)) (by (with_reducible repeat (first | refine blk_drewN ?_ _ | refine blk_drew ?_ | refine blk_alloc ?_ _)); exact BK211.out) hb); have n1_ := Aside0.mk (below_step (by repeat (first | (with_reducible first | exact HB.out | apply below_alloc | apply pw_below_drewN | apply below_drew1 | refine below_set ?_ GE211.out) | exact HB.out)) hb); have n2_ := Aside0.mk (hbox); have n3_ := Aside0.mk ((by rw [hg]; exact (below_size (by repeat (first | (with_reducible first | exact HB.out | apply below_alloc | apply pw_below_drewN | apply below_drew1 | refine below_set ?_ GE211.out) | exact HB.out))) : w.heap.size ≤ gb212)); have n4_ := Aside0.mk ((by rw [hg]; exact (below_size (by repeat (first | (with_reducible first | exact HB.out | apply below_alloc | apply pw_below_drewN | apply below_drew1 | refine below_set ?_ GE211.out) | exact HB.out))) : w.heap.size ≤ gb212)); have n5_ := Aside0.mk ((by rw [hg]; exact Nat.ne_of_lt (blk_lt (g := gb211) (o := .cells #[.string a0_0, .slice A0_1 l0_1.length c0_1] 24 (0, 0)) (by (with_reducible repeat (first | refine blk_drewN ?_ _ | refine blk_drew ?_ | refine blk_alloc ?_ _)); exact BK211.out)) : gb211 ≠ gb212)); have n6_ := Aside0.mk ((by rw [hg]; exact Nat.ne_of_gt (blk_lt (g := gb211) (o := .cells #[.string a0_0, .slice A0_1 l0_1.length c0_1] 24 (0, 0)) (by (with_reducible repeat (first | refine blk_drewN ?_ _ | refine blk_drew ?_ | refine blk_alloc ?_ _)); exact BK211.out)) : gb212 ≠ gb211)); clear BK211; clear HB; have BK211 := n0_; have HB := n1_; have BK212 := n2_; have GW212 := n3_; have GE212 := n4_; have NB211_212 := n5_; have NB212_211 := n6_; clear n0_ n1_ n2_ n3_ n4_ n5_ n6_; clear hb hbox hg))
  repeat (go_quiet (first | ((with_reducible refine gate_dst (N := 2) rfl ?_); (try (refine gate_guard (by rfl) ?_; dsimp only)); refine box_event ?hg (N := 2) ?hd (cs := #[.string a0_0, .slice A0_1 l0_1.length c0_1]) (t := 24) ?hr ?_; (case hd => rfl); (case hg => rfl); (case hr => first | (go_simp; done) | (go_simp; rfl)); intro gb211 hg w4 hbox hb; have n0_ := Aside0.mk (below_step (by repeat (first | (with_reducible first | exact HB.out | apply below_alloc | apply pw_below_drewN | apply below_drew1) | exact HB.out)) hb); have n1_ := Aside0.mk (hbox); have n2_ := Aside0.mk ((by rw [hg]; exact (below_size (by repeat (first | (with_reducible first | exact HB.out | apply below_alloc | apply pw_below_drewN | apply below_drew1) | exact HB.out))) : w.heap.size ≤ gb211)); have n3_ := Aside0.mk ((by rw [hg]; exact (below_size (by repeat (first | (with_reducible first | exact HB.out | apply below_alloc | apply pw_below_drewN | apply below_drew1) | exact HB.out))) : w.heap.size ≤ gb211)); clear HB; have HB := n0_; have BK211 := n1_; have GW211 := n2_; have GE211 := n3_; clear n0_ n1_ n2_ n3_; clear hb hbox hg) | ((with_reducible refine gate_dst (N := 3) rfl ?_); (try (refine gate_guard (by rfl) ?_; dsimp only)); refine box_event ?hg (N := 3) ?hd (cs := #[.string a1_0, .slice A1_1 l1_1.length c1_1]) (t := 24) ?hr ?_; (case hd => rfl); (case hg => rfl); (case hr => first | (go_simp; done) | (go_simp; rfl)); intro gb212 hg w5 hbox hb; have n0_ := Aside0.mk (blk_below (g := gb211) (o := .cells #[.string a0_0, .slice A0_1 l0_1.length c0_1] 24 (0, 0)) (by (with_reducible repeat (first | refine blk_drewN ?_ _ | refine blk_drew ?_ | refine blk_alloc ?_ _)); exact BK211.out) hb); have n1_ := Aside0.mk (below_step (by repeat (first | (with_reducible first | exact HB.out | apply below_alloc | apply pw_below_drewN | apply below_drew1 | refine below_set ?_ GE211.out) | exact HB.out)) hb); have n2_ := Aside0.mk (hbox); have n3_ := Aside0.mk ((by rw [hg]; exact (below_size (by repeat (first | (with_reducible first | exact HB.out | apply below_alloc | apply pw_below_drewN | apply below_drew1 | refine below_set ?_ GE211.out) | exact HB.out))) : w.heap.size ≤ gb212)); have n4_ := Aside0.mk ((by rw [hg]; exact (below_size (by repeat (first | (with_reducible first | exact HB.out | apply below_alloc | apply pw_below_drewN | apply below_drew1 | refine below_set ?_ GE211.out) | exact HB.out))) : w.heap.size ≤ gb212)); have n5_ := Aside0.mk ((by rw [hg]; exact Nat.ne_of_lt (blk_lt (g := gb211) (o := .cells #[.string a0_0, .slice A0_1 l0_1.length c0_1] 24 (0, 0)) (by (with_reducible repeat (first | refine blk_drewN ?_ _ | refine blk_drew ?_ | refine blk_alloc ?_ _)); exact BK211.out)) : gb211 ≠ gb212)); have n6_ := Aside0.mk ((by rw [hg]; exact Nat.ne_of_gt (blk_lt (g := gb211) (o := .cells #[.string a0_0, .slice A0_1 l0_1.length c0_1] 24 (0, 0)) (by (with_reducible repeat (first | refine blk_drewN ?_ _ | refine blk_drew ?_ | refine blk_alloc ?_ _)); exact BK211.out)) : gb212 ≠ gb211)); clear BK211; clear HB; have BK211 := n0_; have HB := n1_; have BK212 := n2_; have GW212 := n3_; have GE212 := n4_; have NB211_212 := n5_; have NB212_211 := n6_; clear n0_ n1_ n2_ n3_ n4_ n5_ n6_; clear hb hbox hg)); go_upto_region 1 with (first | ((with_reducible refine gate_dst (N := 2) rfl ?_); (try (refine gate_guard (by rfl) ?_; dsimp only)); refine box_event ?hg (N := 2) ?hd (cs := #[.string a0_0, .slice A0_1 l0_1.length c0_1]) (t := 24) ?hr ?_; (case hd => rfl); (case hg => rfl); (case hr => first | (go_simp; done) | (go_simp; rfl)); intro gb211 hg w4 hbox hb; have n0_ := Aside0.mk (below_step (by repeat (first | (with_reducible first | exact HB.out | apply below_alloc | apply pw_below_drewN | apply below_drew1) | exact HB.out)) hb); have n1_ := Aside0.mk (hbox); have n2_ := Aside0.mk ((by rw [hg]; exact (below_size (by repeat (first | (with_reducible first | exact HB.out | apply below_alloc | apply pw_below_drewN | apply below_drew1) | exact HB.out))) : w.heap.size ≤ gb211)); have n3_ := Aside0.mk ((by rw [hg]; exact (below_size (by repeat (first | (with_reducible first | exact HB.out | apply below_alloc | apply pw_below_drewN | apply below_drew1) | exact HB.out))) : w.heap.size ≤ gb211)); clear HB; have HB := n0_; have BK211 := n1_; have GW211 := n2_; have GE211 := n3_; clear n0_ n1_ n2_ n3_; clear hb hbox hg) | ((with_reducible refine gate_dst (N := 3) rfl ?_); (try (refine gate_guard (by rfl) ?_; dsimp only)); refine box_event ?hg (N := 3) ?hd (cs := #[.string a1_0, .slice A1_1 l1_1.length c1_1]) (t := 24) ?hr ?_; (case hd => rfl); (case hg => rfl); (case hr => first | (go_simp; done) | (go_simp; rfl)); intro gb212 hg w5 hbox hb; have n0_ := Aside0.mk (blk_below (g := gb211) (o := .cells #[.string a0_0, .slice A0_1 l0_1.length c0_1] 24 (0, 0)) (by (with_reducible repeat (first | refine blk_drewN ?_ _ | refine blk_drew ?_ | refine blk_alloc ?_ _)); exact BK211.out) hb); have n1_ := Aside0.mk (below_step (by repeat (first | (with_reducible first | exact HB.out | apply below_alloc | apply pw_below_drewN | apply below_drew1 | refine below_set ?_ GE211.out) | exact HB.out)) hb); have n2_ := Aside0.mk (hbox); have n3_ := Aside0.mk ((by rw [hg]; exact (below_size (by repeat (first | (with_reducible first | exact HB.out | apply below_alloc | apply pw_below_drewN | apply below_drew1 | refine below_set ?_ GE211.out) | exact HB.out))) : w.heap.size ≤ gb212)); have n4_ := Aside0.mk ((by rw [hg]; exact (below_size (by repeat (first | (with_reducible first | exact HB.out | apply below_alloc | apply pw_below_drewN | apply below_drew1 | refine below_set ?_ GE211.out) | exact HB.out))) : w.heap.size ≤ gb212)); have n5_ := Aside0.mk ((by rw [hg]; exact Nat.ne_of_lt (blk_lt (g := gb211) (o := .cells #[.string a0_0, .slice A0_1 l0_1.length c0_1] 24 (0, 0)) (by (with_reducible repeat (first | refine blk_drewN ?_ _ | refine blk_drew ?_ | refine blk_alloc ?_ _)); exact BK211.out)) : gb211 ≠ gb212)); have n6_ := Aside0.mk ((by rw [hg]; exact Nat.ne_of_gt (blk_lt (g := gb211) (o := .cells #[.string a0_0, .slice A0_1 l0_1.length c0_1] 24 (0, 0)) (by (with_reducible repeat (first | refine blk_drewN ?_ _ | refine blk_drew ?_ | refine blk_alloc ?_ _)); exact BK211.out)) : gb212 ≠ gb211)); clear BK211; clear HB; have BK211 := n0_; have HB := n1_; have BK212 := n2_; have GW212 := n3_; have GE212 := n4_; have NB211_212 := n5_; have NB212_211 := n6_; clear n0_ n1_ n2_ n3_ n4_ n5_ n6_; clear hb hbox hg)))
  (try simp only [Act.put, List.setIfInBounds_toArray, List.set_cons_zero, List.set_cons_succ])
  go_cut [19] (fun v19 wc => ∃ (kq : Nat) (x19_2 : Bool), v19 = .bool x19_2 ∧ Aside0 (colonnaderef11_Same.j0 kq x19_2 a0_0 l0_1 a1_0 l1_1 = some r) ∧ Aside0 (kq ≤ k) ∧ Aside0 (wc.heap[gb211]? = some (.cells #[.string a0_0, (.slice A0_1 l0_1.length c0_1)] 24 (0, 0))) ∧ Aside0 (wc.heap[gb212]? = some (.cells #[.string a1_0, (.slice A1_1 l1_1.length c1_1)] 24 (0, 0))) ∧ Aside0 (Below w.heap.size w wc))
  case first =>
    have H := HC3.out
    clear HC3
    by_cases c6 : a0_0.toList = a1_0.toList
    · rw [if_pos c6] at H
      have c6b0 : (a0_0.toList == a1_0.toList) = true := beq_iff_eq.mpr c6
      have c6b1 : (a0_0.toList != a1_0.toList) = false := bne_eq_false_iff_eq.mpr c6
      clear c6
      (first | rw [c6b0] | (simp only [i64_w, i32_w]; rw [c6b0]) | skip)
      have H' := Aside0.mk H
      clear H
      have hnb7 := NB211_212.out
      have hnc7 := NB212_211.out
      have hcz8_0 : w5.cell? ⟨gb211, 0, none⟩ = some (.string a0_0) := (blk_cell BK211.out 0).trans rfl
      have hcz8_1 : w5.cell? ⟨gb211, 1, none⟩ = some (.slice A0_1 l0_1.length c0_1) := (blk_cell BK211.out 1).trans rfl
      have hfz8_0 := blk_frozen BK211.out 0
      have hfz8_1 := blk_frozen BK211.out 1
      have hcz9_0 : w5.cell? ⟨gb212, 0, none⟩ = some (.string a1_0) := (blk_cell BK212.out 0).trans rfl
      have hcz9_1 : w5.cell? ⟨gb212, 1, none⟩ = some (.slice A1_1 l1_1.length c1_1) := (blk_cell BK212.out 1).trans rfl
      have hfz9_0 := blk_frozen BK212.out 0
      have hfz9_1 := blk_frozen BK212.out 1
      go_wp2
      repeat (go_quiet (fail); try go_wp2)
      go_meet
      case rel => exact ⟨_, (((l0_1.length : Int) != (l1_1.length : Int))), (by first | rfl | (simp; done) | (simp [*]; done)), H', ⟨by first | omega | exact Nat.le_refl _⟩, ⟨by (with_reducible repeat (first | refine blk_drewN ?_ _ | refine blk_drew ?_ | refine blk_alloc ?_ _)); exact BK211.out⟩, ⟨by (with_reducible repeat (first | refine blk_drewN ?_ _ | refine blk_drew ?_ | refine blk_alloc ?_ _)); exact BK212.out⟩, ⟨by repeat (first | (with_reducible first | exact HB.out | apply below_alloc | apply pw_below_drewN | apply below_drew1 | refine below_set ?_ GE211.out | refine below_set ?_ GE212.out) | exact HB.out)⟩⟩
    · rw [if_neg c6] at H
      have c6b0 : (a0_0.toList == a1_0.toList) = false := beq_eq_false_iff_ne.mpr c6
      have c6b1 : (a0_0.toList != a1_0.toList) = true := bne_iff_ne.mpr c6
      (first | rw [c6b0] | (simp only [i64_w, i32_w]; rw [c6b0]) | skip)
      have H' := Aside0.mk H
      clear H
      have hnb10 := NB211_212.out
      have hnc10 := NB212_211.out
      have hcz11_0 : w5.cell? ⟨gb211, 0, none⟩ = some (.string a0_0) := (blk_cell BK211.out 0).trans rfl
      have hcz11_1 : w5.cell? ⟨gb211, 1, none⟩ = some (.slice A0_1 l0_1.length c0_1) := (blk_cell BK211.out 1).trans rfl
      have hfz11_0 := blk_frozen BK211.out 0
      have hfz11_1 := blk_frozen BK211.out 1
      have hcz12_0 : w5.cell? ⟨gb212, 0, none⟩ = some (.string a1_0) := (blk_cell BK212.out 0).trans rfl
      have hcz12_1 : w5.cell? ⟨gb212, 1, none⟩ = some (.slice A1_1 l1_1.length c1_1) := (blk_cell BK212.out 1).trans rfl
      have hfz12_0 := blk_frozen BK212.out 0
      have hfz12_1 := blk_frozen BK212.out 1
      go_wp2
      repeat (go_quiet (fail); try go_wp2)
      go_meet
      case rel => exact ⟨_, (true), (by first | rfl | (simp; done) | (simp [*]; done)), H', ⟨by first | omega | exact Nat.le_refl _⟩, ⟨by (with_reducible repeat (first | refine blk_drewN ?_ _ | refine blk_drew ?_ | refine blk_alloc ?_ _)); exact BK211.out⟩, ⟨by (with_reducible repeat (first | refine blk_drewN ?_ _ | refine blk_drew ?_ | refine blk_alloc ?_ _)); exact BK212.out⟩, ⟨by repeat (first | (with_reducible first | exact HB.out | apply below_alloc | apply pw_below_drewN | apply below_drew1 | refine below_set ?_ GE211.out | refine below_set ?_ GE212.out) | exact HB.out)⟩⟩
  case rest =>
    clear HC3
    try clear c1
    try clear p2
    try clear c3
    try clear c6
    try clear c6b0
    try clear c6b1
    try clear c7
    try clear c10
    try clear hcz11_0
    try clear hcz11_1
    try clear hcz12_0
    try clear hcz12_1
    try clear hcz8_0
    try clear hcz8_1
    try clear hcz9_0
    try clear hcz9_1
    try clear hfz11_0
    try clear hfz11_1
    try clear hfz12_0
    try clear hfz12_1
    try clear hfz8_0
    try clear hfz8_1
    try clear hfz9_0
    try clear hfz9_1
    obtain ⟨kq, x19_2, rfl, HA, HJ2, BK211, BK212, HB⟩ := hcut
    cases kq with
    | zero => exact absurd HA.out (by simp [colonnaderef11_Same.j0])
    | succ kj2 =>
      have H := HA.out
      clear HA
      simp only [colonnaderef11_Same.j0] at H
      by_cases c13 : x19_2 = true
      · subst c13
        have H1 : (some false) = some r := by rw [if_pos rfl] at H; exact H
        clear H
        have H := H1
        clear H1
        obtain rfl := Option.some.inj H
        go_wp2
        repeat (go_quiet (fail); try go_wp2)
        go_ret
        exact ⟨by first | rfl | (simp [errW_none, errW_some] <;> rfl) | (simp [*, errW_none, errW_some] <;> rfl), by repeat (first | (with_reducible first | exact HB.out | apply below_alloc | apply pw_below_drewN | apply below_drew1 | refine below_set ?_ GE211.out | refine below_set ?_ GE212.out) | exact HB.out)⟩
      · replace c13 := Bool.eq_false_iff.mpr c13
        subst c13
        have H1 : (colonnaderef11_Same.l0 kj2 0 a0_0 l0_1 a1_0 l1_1) = some r := by rw [if_neg (show ¬ (false = true) by decide)] at H; exact H
        clear H
        have H := H1
        clear H1
        have H' := Aside0.mk H
        clear H
        go_wp2
        repeat (go_quiet (fail); try go_wp2)
        go_loopg [5] kj2 (fun kq v5 w' => ∃ (x5_2 : Int), v5 = .int .i64 x5_2 ∧ Aside0 (colonnaderef11_Same.l0 kq x5_2 a0_0 l0_1 a1_0 l1_1 = some r) ∧ Aside0 (kq ≤ kj2) ∧ Aside0 (w'.heap[gb211]? = some (.cells #[.string a0_0, (.slice A0_1 l0_1.length c0_1)] 24 (0, 0))) ∧ Aside0 (w'.heap[gb212]? = some (.cells #[.string a1_0, (.slice A1_1 l1_1.length c1_1)] 24 (0, 0))) ∧ Aside0 (Below w.heap.size w w'))
        case atStart => exact ⟨(0), (by first | rfl | (simp; done) | (simp [*]; done)), H', ⟨Nat.le_refl _⟩, ⟨by (with_reducible repeat (first | refine blk_drewN ?_ _ | refine blk_drew ?_ | refine blk_alloc ?_ _)); exact BK211.out⟩, ⟨by (with_reducible repeat (first | refine blk_drewN ?_ _ | refine blk_drew ?_ | refine blk_alloc ?_ _)); exact BK212.out⟩, ⟨by repeat (first | (with_reducible first | exact HB.out | apply below_alloc | apply pw_below_drewN | apply below_drew1 | refine below_set ?_ GE211.out | refine below_set ?_ GE212.out) | exact HB.out)⟩⟩
        case round =>
          clear H'
          try clear c1
          try clear p2
          try clear c3
          try clear c6
          try clear c6b0
          try clear c6b1
          try clear c7
          try clear c10
          try clear c13
          try clear hcz11_0
          try clear hcz11_1
          try clear hcz12_0
          try clear hcz12_1
          try clear hcz8_0
          try clear hcz8_1
          try clear hcz9_0
          try clear hcz9_1
          try clear hfz11_0
          try clear hfz11_1
          try clear hfz12_0
          try clear hfz12_1
          try clear hfz8_0
          try clear hfz8_1
          try clear hfz9_0
          try clear hfz9_1
          try clear p2
          obtain ⟨x5_2, rfl, HA, HK2, BK211, BK212, HB⟩ := hrel
          cases gk with
          | zero => exact absurd HA.out (by simp [colonnaderef11_Same.l0])
          | succ k2 =>
            have H := HA.out
            clear HA
            simp only [colonnaderef11_Same.l0] at H
            by_cases c14 : x5_2 < (l0_1.length : Int)
            · rw [if_pos c14] at H
              have c14b0 : decide (x5_2 < (l0_1.length : Int)) = true := decide_eq_true c14
              clear c14
              by_cases c15 : 0 ≤ x5_2
              · rw [if_pos c15] at H
                have c15b0 : decide (0 ≤ x5_2) = true := decide_eq_true c15
                clear c15
                by_cases c16 : x5_2 < (l1_1.length : Int)
                · rw [if_pos c16] at H
                  have c16b0 : decide (x5_2 < (l1_1.length : Int)) = true := decide_eq_true c16
                  clear c16
                  by_cases c17 : (!((((rd_T36 l0_1 x5_2).f0).toList) == (((rd_T36 l1_1 x5_2).f0).toList)) || ((!(((rd_T36 l0_1 x5_2).f1.f0) == ((rd_T36 l1_1 x5_2).f1.f0)) || (!(((rd_T36 l0_1 x5_2).f1.f1) == ((rd_T36 l1_1 x5_2).f1.f1)))) || (!(((rd_T36 l0_1 x5_2).f2) == ((rd_T36 l1_1 x5_2).f2))))) = true
                  · rw [if_pos c17] at H
                    have c17b0 : (!((((rd_T36 l0_1 x5_2).f0).toList) == (((rd_T36 l1_1 x5_2).f0).toList)) || ((!(((rd_T36 l0_1 x5_2).f1.f0) == ((rd_T36 l1_1 x5_2).f1.f0)) || (!(((rd_T36 l0_1 x5_2).f1.f1) == ((rd_T36 l1_1 x5_2).f1.f1)))) || (!(((rd_T36 l0_1 x5_2).f2) == ((rd_T36 l1_1 x5_2).f2))))) = true := c17
                    clear c17
                    obtain rfl := Option.some.inj H
                    have hnb18 := NB211_212.out
                    have hnc18 := NB212_211.out
                    have hcz19_0 : wr.cell? ⟨gb211, 0, none⟩ = some (.string a0_0) := (blk_cell BK211.out 0).trans rfl
                    have hcz19_1 : wr.cell? ⟨gb211, 1, none⟩ = some (.slice A0_1 l0_1.length c0_1) := (blk_cell BK211.out 1).trans rfl
                    have hfz19_0 := blk_frozen BK211.out 0
                    have hfz19_1 := blk_frozen BK211.out 1
                    have p213 : 0 ≤ (x5_2 : Int) := of_decide_eq_true (by first | (with_reducible assumption) | assumption)
                    have q213 : x5_2 < (l0_1.length : Int) := of_decide_eq_true (by first | (with_reducible assumption) | assumption)
                    obtain ⟨ad213, e213, hx213_0, hx213_1, hx213_2, hx213_3⟩ := at_T36 HR0_1.out x5_2 p213 q213
                    cases e213
                    replace hx213_0 := (HB.out.cell (World.block_lt_of_cell? w _ hx213_0)).trans hx213_0
                    replace hx213_1 := (HB.out.cell (World.block_lt_of_cell? w _ hx213_1)).trans hx213_1
                    replace hx213_2 := (HB.out.cell (World.block_lt_of_cell? w _ hx213_2)).trans hx213_2
                    replace hx213_3 := (HB.out.cell (World.block_lt_of_cell? w _ hx213_3)).trans hx213_3
                    replace p213 := eq_true p213
                    replace q213 := eq_true q213
                    have hcz20_0 : wr.cell? ⟨gb212, 0, none⟩ = some (.string a1_0) := (blk_cell BK212.out 0).trans rfl
                    have hcz20_1 : wr.cell? ⟨gb212, 1, none⟩ = some (.slice A1_1 l1_1.length c1_1) := (blk_cell BK212.out 1).trans rfl
                    have hfz20_0 := blk_frozen BK212.out 0
                    have hfz20_1 := blk_frozen BK212.out 1
                    have p214 : 0 ≤ (x5_2 : Int) := of_decide_eq_true (by first | (with_reducible assumption) | assumption)
                    have q214 : x5_2 < (l1_1.length : Int) := of_decide_eq_true (by first | (with_reducible assumption) | assumption)
                    obtain ⟨ad214, e214, hx214_0, hx214_1, hx214_2, hx214_3⟩ := at_T36 HR1_1.out x5_2 p214 q214
                    cases e214
                    replace hx214_0 := (HB.out.cell (World.block_lt_of_cell? w _ hx214_0)).trans hx214_0
                    replace hx214_1 := (HB.out.cell (World.block_lt_of_cell? w _ hx214_1)).trans hx214_1
                    replace hx214_2 := (HB.out.cell (World.block_lt_of_cell? w _ hx214_2)).trans hx214_2
                    replace hx214_3 := (HB.out.cell (World.block_lt_of_cell? w _ hx214_3)).trans hx214_3
                    replace p214 := eq_true p214
                    replace q214 := eq_true q214
                    go_wp2
                    repeat (go_quiet (fail); try go_wp2)
                    go_ret
                    exact ⟨by first | rfl | (simp [errW_none, errW_some] <;> rfl) | (simp [*, errW_none, errW_some] <;> rfl), by repeat (first | (with_reducible first | exact HB.out | apply below_alloc | apply pw_below_drewN | apply below_drew1 | refine below_set ?_ GE211.out | refine below_set ?_ GE212.out) | exact HB.out)⟩
                  · rw [if_neg c17] at H
                    have c17b0 : (!((((rd_T36 l0_1 x5_2).f0).toList) == (((rd_T36 l1_1 x5_2).f0).toList)) || ((!(((rd_T36 l0_1 x5_2).f1.f0) == ((rd_T36 l1_1 x5_2).f1.f0)) || (!(((rd_T36 l0_1 x5_2).f1.f1) == ((rd_T36 l1_1 x5_2).f1.f1)))) || (!(((rd_T36 l0_1 x5_2).f2) == ((rd_T36 l1_1 x5_2).f2))))) = false := by simpa using c17
                    clear c17
                    have H' := Aside0.mk H
                    clear H
                    have hnb21 := NB211_212.out
                    have hnc21 := NB212_211.out
                    have hcz22_0 : wr.cell? ⟨gb211, 0, none⟩ = some (.string a0_0) := (blk_cell BK211.out 0).trans rfl
                    have hcz22_1 : wr.cell? ⟨gb211, 1, none⟩ = some (.slice A0_1 l0_1.length c0_1) := (blk_cell BK211.out 1).trans rfl
                    have hfz22_0 := blk_frozen BK211.out 0
                    have hfz22_1 := blk_frozen BK211.out 1
                    have p213 : 0 ≤ (x5_2 : Int) := of_decide_eq_true (by first | (with_reducible assumption) | assumption)
                    have q213 : x5_2 < (l0_1.length : Int) := of_decide_eq_true (by first | (with_reducible assumption) | assumption)
                    obtain ⟨ad213, e213, hx213_0, hx213_1, hx213_2, hx213_3⟩ := at_T36 HR0_1.out x5_2 p213 q213
                    cases e213
                    replace hx213_0 := (HB.out.cell (World.block_lt_of_cell? w _ hx213_0)).trans hx213_0
                    replace hx213_1 := (HB.out.cell (World.block_lt_of_cell? w _ hx213_1)).trans hx213_1
                    replace hx213_2 := (HB.out.cell (World.block_lt_of_cell? w _ hx213_2)).trans hx213_2
                    replace hx213_3 := (HB.out.cell (World.block_lt_of_cell? w _ hx213_3)).trans hx213_3
                    replace p213 := eq_true p213
                    replace q213 := eq_true q213
                    have hcz23_0 : wr.cell? ⟨gb212, 0, none⟩ = some (.string a1_0) := (blk_cell BK212.out 0).trans rfl
                    have hcz23_1 : wr.cell? ⟨gb212, 1, none⟩ = some (.slice A1_1 l1_1.length c1_1) := (blk_cell BK212.out 1).trans rfl
                    have hfz23_0 := blk_frozen BK212.out 0
                    have hfz23_1 := blk_frozen BK212.out 1
                    have p214 : 0 ≤ (x5_2 : Int) := of_decide_eq_true (by first | (with_reducible assumption) | assumption)
                    have q214 : x5_2 < (l1_1.length : Int) := of_decide_eq_true (by first | (with_reducible assumption) | assumption)
                    obtain ⟨ad214, e214, hx214_0, hx214_1, hx214_2, hx214_3⟩ := at_T36 HR1_1.out x5_2 p214 q214
                    cases e214
                    replace hx214_0 := (HB.out.cell (World.block_lt_of_cell? w _ hx214_0)).trans hx214_0
                    replace hx214_1 := (HB.out.cell (World.block_lt_of_cell? w _ hx214_1)).trans hx214_1
                    replace hx214_2 := (HB.out.cell (World.block_lt_of_cell? w _ hx214_2)).trans hx214_2
                    replace hx214_3 := (HB.out.cell (World.block_lt_of_cell? w _ hx214_3)).trans hx214_3
                    replace p214 := eq_true p214
                    replace q214 := eq_true q214
                    go_wp2
                    repeat (go_quiet (fail); try go_wp2)
                    go_roundg k2
                    case measure => have := HJ2.out; have := HK2.out; omega
                    case rel => exact ⟨(wrap64 (x5_2 + 1)), (by first | rfl | (simp; done) | (simp [*]; done)), H', ⟨by have := HJ2.out; have := HK2.out; omega⟩, ⟨by (with_reducible repeat (first | refine blk_drewN ?_ _ | refine blk_drew ?_ | refine blk_alloc ?_ _)); exact BK211.out⟩, ⟨by (with_reducible repeat (first | refine blk_drewN ?_ _ | refine blk_drew ?_ | refine blk_alloc ?_ _)); exact BK212.out⟩, ⟨by repeat (first | (with_reducible first | exact HB.out | apply below_alloc | apply pw_below_drewN | apply below_drew1 | refine below_set ?_ GE211.out | refine below_set ?_ GE212.out) | exact HB.out)⟩⟩
                · rw [if_neg c16] at H
                  exact absurd H (by simp)
              · rw [if_neg c15] at H
                exact absurd H (by simp)
            · rw [if_neg c14] at H
              have c14b0 : decide (x5_2 < (l0_1.length : Int)) = false := decide_eq_false c14
              clear c14
              obtain rfl := Option.some.inj H
              have hnb24 := NB211_212.out
              have hnc24 := NB212_211.out
              have hcz25_0 : wr.cell? ⟨gb211, 0, none⟩ = some (.string a0_0) := (blk_cell BK211.out 0).trans rfl
              have hcz25_1 : wr.cell? ⟨gb211, 1, none⟩ = some (.slice A0_1 l0_1.length c0_1) := (blk_cell BK211.out 1).trans rfl
              have hfz25_0 := blk_frozen BK211.out 0
              have hfz25_1 := blk_frozen BK211.out 1
              go_wp2
              repeat (go_quiet (fail); try go_wp2)
              go_ret
              exact ⟨by first | rfl | (simp [errW_none, errW_some] <;> rfl) | (simp [*, errW_none, errW_some] <;> rfl), by repeat (first | (with_reducible first | exact HB.out | apply below_alloc | apply pw_below_drewN | apply below_drew1 | refine below_set ?_ GE211.out | refine below_set ?_ GE212.out) | exact HB.out)⟩

/-! ### strings_Trim: function 58, by hand -/
def strings_Trim.f (a0 : ByteArray) (a1 : ByteArray) : Option (ByteArray) := if a1.data.toList = ([97, 98, 99, 100, 101, 102, 103, 104, 105, 106, 107, 108, 109, 110, 111, 112, 113, 114, 115, 116, 117, 118, 119, 120, 121, 122, 48, 49, 50, 51, 52, 53, 54, 55, 56, 57, 95] : List UInt8) then (if a0.size ≤ 9223372036854775807 then some ⟨(Lib.trimS a0.data.toList ([97, 98, 99, 100, 101, 102, 103, 104, 105, 106, 107, 108, 109, 110, 111, 112, 113, 114, 115, 116, 117, 118, 119, 120, 121, 122, 48, 49, 50, 51, 52, 53, 54, 55, 56, 57, 95] : List UInt8)).toArray⟩ else none) else none
theorem strings_Trim.calls (a0 : ByteArray) (a1 : ByteArray) (r : ByteArray) (w : World) (h : strings_Trim.f a0 a1 = some r) :
    Calls Tryz.prog 58 #[.string a0, .string a1] w fun e w' => e = .returned (.string r) ∧ Below w.heap.size w w' := by
  unfold strings_Trim.f at h
  by_cases h1 : a1.data.toList = ([97, 98, 99, 100, 101, 102, 103, 104, 105, 106, 107, 108, 109, 110, 111, 112, 113, 114, 115, 116, 117, 118, 119, 120, 121, 122, 48, 49, 50, 51, 52, 53, 54, 55, 56, 57, 95] : List UInt8)
  · rw [if_pos h1] at h
    by_cases h2 : a0.size ≤ 9223372036854775807
    · rw [if_pos h2] at h
      obtain rfl := Option.some.inj h
      have e : a1 = ⟨#[97, 98, 99, 100, 101, 102, 103, 104, 105, 106, 107, 108, 109, 110, 111, 112, 113, 114, 115, 116, 117, 118, 119, 120, 121, 122, 48, 49, 50, 51, 52, 53, 54, 55, 56, 57, 95]⟩ := by
        have := Array.toList_inj.1 h1
        cases a1; subst this; rfl
      subst e
      exact Tryz.strings_Trim_name a0 w h2
    · rw [if_neg h2] at h; exact absurd h (by simp)
  · rw [if_neg h1] at h; exact absurd h (by simp)


/-! ### schema_Name: function 24, by hand -/
def schema_Name.inS (c : UInt8) : Bool := (decide (97 ≤ c.toNat) && decide (c.toNat ≤ 122)) || ((decide (48 ≤ c.toNat) && decide (c.toNat ≤ 57)) || decide (c.toNat = 95))
theorem schema_Name.inS_cut (c : UInt8) : ([97, 98, 99, 100, 101, 102, 103, 104, 105, 106, 107, 108, 109, 110, 111, 112, 113, 114, 115, 116, 117, 118, 119, 120, 121, 122, 48, 49, 50, 51, 52, 53, 54, 55, 56, 57, 95] : List UInt8).contains c = schema_Name.inS c := by
  have : ∀ n : Fin 256, ([97, 98, 99, 100, 101, 102, 103, 104, 105, 106, 107, 108, 109, 110, 111, 112, 113, 114, 115, 116, 117, 118, 119, 120, 121, 122, 48, 49, 50, 51, 52, 53, 54, 55, 56, 57, 95] : List UInt8).contains (UInt8.ofNat n.val) = schema_Name.inS (UInt8.ofNat n.val) := by decide +kernel
  have h := this ⟨c.toNat, UInt8.toNat_lt c⟩
  simpa using h
theorem schema_Name.dw_all (p : UInt8 → Bool) : ∀ l : List UInt8, l.dropWhile p = [] → ∀ c ∈ l, p c = true
  | [], _, c, hc => by cases hc
  | a :: l, h, c, hc => by
    by_cases g : p a = true
    · rw [List.dropWhile_cons, if_pos g] at h
      rcases List.mem_cons.1 hc with rfl | hc
      · exact g
      · exact schema_Name.dw_all p l h c hc
    · rw [List.dropWhile_cons, if_neg g] at h; cases h
theorem schema_Name.dw_nil (p : UInt8 → Bool) : ∀ l : List UInt8, (∀ c ∈ l, p c = true) → l.dropWhile p = []
  | [], _ => rfl
  | c :: l, h => by rw [List.dropWhile_cons, if_pos (h c (by simp))]; exact schema_Name.dw_nil p l fun x hx => h x (List.mem_cons_of_mem _ hx)
theorem schema_Name.dw_end (p : UInt8 → Bool) : ∀ l : List UInt8, l.dropWhile p = [] ∨ ∃ a r, l.dropWhile p = a :: r ∧ p a = false
  | [] => .inl rfl
  | c :: l => by
    by_cases g : p c = true
    · rw [List.dropWhile_cons, if_pos g]; exact schema_Name.dw_end p l
    · rw [List.dropWhile_cons, if_neg g]; exact .inr ⟨c, l, rfl, Bool.eq_false_iff.mpr g⟩
theorem schema_Name.trim_iff (l : List UInt8) : Lib.trimS l ([97, 98, 99, 100, 101, 102, 103, 104, 105, 106, 107, 108, 109, 110, 111, 112, 113, 114, 115, 116, 117, 118, 119, 120, 121, 122, 48, 49, 50, 51, 52, 53, 54, 55, 56, 57, 95] : List UInt8) = [] ↔ l.all schema_Name.inS = true := by
  have hp : (([97, 98, 99, 100, 101, 102, 103, 104, 105, 106, 107, 108, 109, 110, 111, 112, 113, 114, 115, 116, 117, 118, 119, 120, 121, 122, 48, 49, 50, 51, 52, 53, 54, 55, 56, 57, 95] : List UInt8).contains ·) = schema_Name.inS := by funext c; exact schema_Name.inS_cut c
  unfold Lib.trimS Lib.trimRightS Lib.trimLeftS
  rw [hp]
  constructor
  · intro h
    rw [List.all_eq_true]
    rcases schema_Name.dw_end schema_Name.inS l.reverse with e | ⟨a, r, e, ha⟩
    · exact fun c hc => schema_Name.dw_all _ _ e c (List.mem_reverse.2 hc)
    · rw [e] at h
      have h2 := schema_Name.dw_all _ _ h a (by simp)
      rw [ha] at h2; cases h2
  · intro h
    rw [List.all_eq_true] at h
    rw [schema_Name.dw_nil schema_Name.inS l.reverse fun c hc => h c (List.mem_reverse.1 hc)]
    rfl
structure schema_Name.BL (W : World) (N : Nat) (l : List UInt8) : Prop where
  at_ : ∀ j (hj : j < l.length), W.cell? ⟨N, j, none⟩ = some (.int .u8 (l[j].toNat : Int))
theorem schema_Name.BL.of_new (w : World) (s : ByteArray) (cap : Nat) (e : TypeId) : schema_Name.BL (w.alloc (.cells (bytesRow s cap) e ((bytesRow s cap).size, (bytesRow s cap).size + 1))) w.heap.size s.data.toList := by
  have hl : s.data.toList.length = s.data.size := Array.length_toList
  refine ⟨fun j hj => ?_⟩
  rw [World.cell?_alloc_mark, bytesRow_at s cap j (by omega)]
  simp
def schema_Name.f (a0 : ByteArray) : Option (Int) := some (if a0.size = 0 then 110 else if 32 < a0.size then 110 else if 48 ≤ bt a0 0 ∧ bt a0 0 ≤ 57 then 110 else if a0.data.toList.all schema_Name.inS = true then 0 else 110)
set_option maxHeartbeats 8000000 in
set_option maxRecDepth 100000 in
theorem schema_Name.calls (a0 : ByteArray) (r : Int) (w : World) (h : schema_Name.f a0 = some r) :
    Calls Tryz.prog 24 #[.string a0] w fun e w' => e = .returned (.int .i64 r) ∧ Below w.heap.size w w' := by
  have hL : a0.data.toList.length = a0.size := Array.length_toList
  have hS : a0.toList = a0.data.toList := Go.Proofs.YtmeopdjdjmjngaaGreatDoor.Str.toList_eq a0
  unfold schema_Name.f at h
  have h := Option.some.inj h
  by_cases c1 : a0.size = 0
  · rw [if_pos c1] at h
    subst h
    have e0 : a0.toList = [] := by rw [hS]; exact List.eq_nil_of_length_eq_zero (by omega)
    clear c1 hS hL
    have e1 : (a0.toList == ([] : List UInt8)) = true := by rw [e0]; rfl
    have e2 : a0.toList.isEmpty = true := by rw [e0]; rfl
    go_enter Tryz.func24, Tryz.ntmps24
    go_wp2
    go_ret
    exact ⟨rfl, Below.refl _ _⟩
  rw [if_neg c1] at h
  have n0 : ¬ a0.toList = [] := by rw [hS]; intro z; rw [z] at hL; simp at hL; omega
  have e1 : (a0.toList == ([] : List UInt8)) = false := beq_eq_false_iff_ne.mpr n0
  have e2 : a0.toList.isEmpty = false := by cases ht : a0.toList with | nil => exact absurd ht n0 | cons _ _ => rfl
  by_cases c2 : 32 < a0.size
  · rw [if_pos c2] at h
    subst h
    have g1 : decide ((32 : Int) < (a0.size : Int)) = true := decide_eq_true (by omega)
    have g2 : decide (32 < a0.size) = true := decide_eq_true c2
    clear c1 c2 hS hL n0
    go_enter Tryz.func24, Tryz.ntmps24
    go_wp2
    go_ret
    exact ⟨rfl, Below.refl _ _⟩
  rw [if_neg c2] at h
  have g1 : decide ((32 : Int) < (a0.size : Int)) = false := decide_eq_false (by omega)
  have g2 : decide (32 < a0.size) = false := decide_eq_false c2
  have hb : ∀ z : 0 < a0.size, (((a0[0]'z).toNat : Nat) : Int) = bt a0 0 := fun z => bt_at a0 0 z
  have p0 : ((0 : Int) < (a0.size : Int)) = True := eq_true (by omega)
  have p1 : (0 < a0.size) = True := eq_true (by omega)
  by_cases c3 : 48 ≤ bt a0 0 ∧ bt a0 0 ≤ 57
  · rw [if_pos c3] at h
    subst h
    have g3 : decide (48 ≤ bt a0 0) = true := decide_eq_true c3.1
    have g4 : decide (bt a0 0 ≤ 57) = true := decide_eq_true c3.2
    clear c1 c2 c3 hS hL n0
    go_enter Tryz.func24, Tryz.ntmps24
    go_wp2
    go_ret
    exact ⟨rfl, Below.refl _ _⟩
  rw [if_neg c3] at h
  have AT : Aside0 (strings_Trim.f a0 (⟨#[97, 98, 99, 100, 101, 102, 103, 104, 105, 106, 107, 108, 109, 110, 111, 112, 113, 114, 115, 116, 117, 118, 119, 120, 121, 122, 48, 49, 50, 51, 52, 53, 54, 55, 56, 57, 95]⟩ : ByteArray) = some ⟨(Lib.trimS a0.data.toList ([97, 98, 99, 100, 101, 102, 103, 104, 105, 106, 107, 108, 109, 110, 111, 112, 113, 114, 115, 116, 117, 118, 119, 120, 121, 122, 48, 49, 50, 51, 52, 53, 54, 55, 56, 57, 95] : List UInt8)).toArray⟩) := ⟨by
    unfold strings_Trim.f
    rw [if_pos rfl, if_pos (by omega)]⟩
  have HC3 := Aside0.mk c3
  clear c3
  by_cases c4 : a0.data.toList.all schema_Name.inS = true
  · rw [if_pos c4] at h
    subst h
    have e := (schema_Name.trim_iff a0.data.toList).2 c4
    rw [e] at AT
    have h4 := Aside0.mk (List.all_eq_true.1 c4)
    have hN := Aside0.mk hL
    have hsz := Aside0.mk (show a0.size ≤ 32 by omega)
    clear c1 c2 c4 e hS hL n0
    by_cases d : 48 ≤ bt a0 0
    all_goals (first
      | (have g3 : decide (48 ≤ bt a0 0) = true := decide_eq_true d
         have g4 : decide (bt a0 0 ≤ 57) = false := decide_eq_false fun z => HC3.out ⟨d, z⟩
         clear d HC3)
      | (have g3 : decide (48 ≤ bt a0 0) = false := decide_eq_false d
         clear d HC3))
    all_goals
      have kc := fun (W : World) => run_bytes_of_string (P := Tryz.prog) W 9 62 5 a0 Tryz.underlying9 Tryz.underlying62 Tryz.underlying5
      go_enter Tryz.func24, Tryz.ntmps24
      go_wp2_with ((go_at_call 58; refine (strings_Trim.calls a0 _ _ _ AT.out).mono ?_; rintro e w1 ⟨rfl, hb⟩; have HB := Aside0.mk hb; clear hb); have B0 := Aside0.mk (schema_Name.BL.of_new w1.drew a0 (grownCap w1 a0.size 0 5) 5))
      have G1 := HB
      clear HB
      have G0 : Aside0 (Below w.heap.size w (w1.drew.alloc (.cells (bytesRow a0 (grownCap w1 a0.size 0 5)) 5 ((bytesRow a0 (grownCap w1 a0.size 0 5)).size, (bytesRow a0 (grownCap w1 a0.size 0 5)).size + 1)))) := ⟨by apply below_alloc; apply below_drew1; exact G1.out⟩
      go_loopg [30] (a0.size + 1) (fun kq v30 w' => ∃ (i : Nat), v30 = .int .i64 (i : Int) ∧ Aside0 (i + kq = a0.size + 1) ∧ Aside0 (i ≤ a0.size) ∧ Aside0 (schema_Name.BL w' w1.heap.size a0.data.toList) ∧ Aside0 (Below w.heap.size w w'))
      case atStart => exact ⟨0, rfl, ⟨by omega⟩, ⟨by omega⟩, B0, G0⟩
      case round =>
        clear B0 G0 G1
        obtain ⟨i, rfl, HI, HJ, HL, HW⟩ := hrel
        cases gk with
        | zero => exact absurd HI.out (by have := HJ.out; omega)
        | succ k1 =>
          by_cases c : i < a0.size
          · have hi : i < a0.data.toList.length := by have := hN.out; omega
            have c0 : decide ((i : Int) < (a0.size : Int)) = true := decide_eq_true (by omega)
            have p4 : (0 ≤ (i : Int)) = True := eq_true (by omega)
            have q4 : ((i : Int) < (a0.size : Int)) = True := eq_true (by omega)
            have q5 : (i < a0.size) = True := eq_true c
            have hc := HL.out.at_ i hi
            have hin := h4.out _ (List.getElem_mem hi)
            have hw : wrap64 ((i : Int) + 1) = ((i + 1 : Nat) : Int) := by have := hsz.out; unfold wrap64; omega
            generalize a0.data.toList[i] = ch at hc hin
            unfold schema_Name.inS at hin
            by_cases k1_ : 97 ≤ ch.toNat
            · have hin2 : ch.toNat ≤ 122 := by
                simp only [Bool.or_eq_true, Bool.and_eq_true, decide_eq_true_eq] at hin
                omega
              have t1 : decide ((ch.toNat : Int) < 97) = false := decide_eq_false (by omega)
              have t2 : decide ((122 : Int) < (ch.toNat : Int)) = false := decide_eq_false (by omega)
              clear hin hin2 k1_
              go_wp2
              go_roundg k1
              case measure => have := HI.out; have := HJ.out; omega
              case rel => exact ⟨i + 1, by first | (rw [hw]) | rfl | (simp; done) | (simp [*]; done), ⟨by have := HI.out; omega⟩, ⟨by omega⟩, ⟨⟨HL.out.at_⟩⟩, ⟨by repeat (first | exact HW.out | apply below_drew1 | apply pw_below_drewN)⟩⟩
            · by_cases k2_ : ch.toNat = 95
              · have t1 : (ch.toNat : Int) = 95 := by omega
                rw [t1] at hc
                clear hin k1_ k2_ t1
                go_wp2
                go_roundg k1
                case measure => have := HI.out; have := HJ.out; omega
                case rel => exact ⟨i + 1, by first | (rw [hw]) | rfl | (simp; done) | (simp [*]; done), ⟨by have := HI.out; omega⟩, ⟨by omega⟩, ⟨⟨HL.out.at_⟩⟩, ⟨by repeat (first | exact HW.out | apply below_drew1 | apply pw_below_drewN)⟩⟩
              · have hin2 : 48 ≤ ch.toNat ∧ ch.toNat ≤ 57 := by
                  simp only [Bool.or_eq_true, Bool.and_eq_true, decide_eq_true_eq] at hin
                  omega
                have t1 : decide ((ch.toNat : Int) < 97) = true := decide_eq_true (by omega)
                have t2 : decide ((ch.toNat : Int) < 48) = false := decide_eq_false (by omega)
                have t3 : decide ((57 : Int) < (ch.toNat : Int)) = false := decide_eq_false (by omega)
                clear hin hin2 k1_ k2_
                go_wp2
                go_roundg k1
                case measure => have := HI.out; have := HJ.out; omega
                case rel => exact ⟨i + 1, by first | (rw [hw]) | rfl | (simp; done) | (simp [*]; done), ⟨by have := HI.out; omega⟩, ⟨by omega⟩, ⟨⟨HL.out.at_⟩⟩, ⟨by repeat (first | exact HW.out | apply below_drew1 | apply pw_below_drewN)⟩⟩
          · have c0 : decide ((i : Int) < (a0.size : Int)) = false := decide_eq_false (by omega)
            go_wp2
            go_ret
            exact ⟨rfl, by repeat (first | exact HW.out | apply below_drew1 | apply pw_below_drewN)⟩
  · rw [if_neg c4] at h
    subst h
    have e : ¬ Lib.trimS a0.data.toList ([97, 98, 99, 100, 101, 102, 103, 104, 105, 106, 107, 108, 109, 110, 111, 112, 113, 114, 115, 116, 117, 118, 119, 120, 121, 122, 48, 49, 50, 51, 52, 53, 54, 55, 56, 57, 95] : List UInt8) = [] := fun z => c4 ((schema_Name.trim_iff _).1 z)
    generalize Lib.trimS a0.data.toList ([97, 98, 99, 100, 101, 102, 103, 104, 105, 106, 107, 108, 109, 110, 111, 112, 113, 114, 115, 116, 117, 118, 119, 120, 121, 122, 48, 49, 50, 51, 52, 53, 54, 55, 56, 57, 95] : List UInt8) = tr at AT e
    have f0 : (⟨tr.toArray⟩ : ByteArray).toList = tr := by rw [Go.Proofs.YtmeopdjdjmjngaaGreatDoor.Str.toList_eq]
    have f1 : ((⟨tr.toArray⟩ : ByteArray).toList == ([] : List UInt8)) = false := by rw [f0]; exact beq_eq_false_iff_ne.mpr e
    have f2 : (⟨tr.toArray⟩ : ByteArray).toList.isEmpty = false := by rw [f0]; cases tr with | nil => exact absurd rfl e | cons _ _ => rfl
    have f4 : tr.isEmpty = false := by cases tr with | nil => exact absurd rfl e | cons _ _ => rfl
    have f3 : ((⟨tr.toArray⟩ : ByteArray).toList != ([] : List UInt8)) = true := by rw [f0]; exact bne_iff_ne.mpr e
    clear f0 e c1 c2 c4 hS hL n0
    by_cases d : 48 ≤ bt a0 0
    · have g3 : decide (48 ≤ bt a0 0) = true := decide_eq_true d
      have g4 : decide (bt a0 0 ≤ 57) = false := decide_eq_false fun z => HC3.out ⟨d, z⟩
      clear d HC3
      go_enter Tryz.func24, Tryz.ntmps24
      go_wp2_with (go_at_call 58; refine (strings_Trim.calls a0 _ _ _ AT.out).mono ?_; rintro e w1 ⟨rfl, hb⟩; have HB := Aside0.mk hb; clear hb)
      go_ret
      exact ⟨rfl, HB.out⟩
    · have g3 : decide (48 ≤ bt a0 0) = false := decide_eq_false d
      clear d HC3
      go_enter Tryz.func24, Tryz.ntmps24
      go_wp2_with (go_at_call 58; refine (strings_Trim.calls a0 _ _ _ AT.out).mono ?_; rintro e w1 ⟨rfl, hb⟩; have HB := Aside0.mk hb; clear hb)
      go_ret
      exact ⟨rfl, HB.out⟩


/-! ### schema_Check: function 18, by hand -/
def schema_Check.cs (x : S36) : List Value := [.string x.f0, .int .i64 x.f1.f0, .int .i64 x.f1.f1, .bool x.f2]
theorem schema_Check.getBang (i : Inhabited S36) (l : List S36) (j : Nat) (h : j < l.length) (z : S36) : @getElem! (List S36) Nat S36 _ _ i l j = l.getD j z := by
  rw [List.getElem!_eq_getElem?_getD, List.getD_eq_getElem?_getD, List.getElem?_eq_getElem h]
  rfl
theorem schema_Check.plain {w : World} {b o : Nat} {sp : Option Nat} {v : Value} (h : w.cell? ⟨b, o, sp⟩ = some v) : sp = none ∧ b < w.heap.size := by
  unfold World.cell? at h
  cases ho : w.heap[b]? with
  | none => simp [ho] at h
  | some ob =>
    refine ⟨?_, (Array.getElem?_eq_some_iff.1 ho).1⟩
    cases ob <;> simp [ho] at h
    cases sp with
    | none => rfl
    | some q => simp at h
theorem schema_Check.spread {w : World} {A : Option Addr} {l : List S36} (h : Kd.C k36 w A l.length l) (hl : 0 < l.length) : ∃ b off, A = some ⟨b, off, none⟩ ∧ b < w.heap.size ∧ ∀ j, j < l.length → ∀ i v, (schema_Check.cs (l.getD j z36))[i]? = some v → w.cell? ⟨b, off + j * 4 + i, none⟩ = some v := by
  obtain ⟨ad, e0, h0, _⟩ := at_T36 h 0 (by omega) (by omega)
  obtain ⟨b, off, sp⟩ := ad
  obtain ⟨rfl, hb⟩ := schema_Check.plain h0
  refine ⟨b, off, e0, hb, fun j hj i v hi => ?_⟩
  obtain ⟨ad, e1, h1, h2, h3, h4⟩ := at_T36 h (j : Int) (by omega) (by omega)
  obtain rfl := Option.some.inj (e0.symm.trans e1)
  unfold rd_T36 at h1 h2 h3 h4
  rw [show ((j : Int).toNat) = j from rfl] at h1 h2 h3 h4
  rw [show (⟨b, off, none⟩ : Addr).add (j * 4) = ⟨b, off + j * 4, none⟩ from by unfold Addr.add; first | rfl | (simp; done) | (split <;> simp_all)] at h1 h2 h3 h4
  unfold schema_Check.cs at hi
  match i, hi with
  | 0, hi => rw [← Option.some.inj hi]; exact h1
  | 1, hi => rw [← Option.some.inj hi]; exact h2
  | 2, hi => rw [← Option.some.inj hi]; exact h3
  | 3, hi => rw [← Option.some.inj hi]; exact h4
  | i + 4, hi => simp at hi
set_option maxHeartbeats 4000000 in
theorem schema_Check.idx0 (g : Nat) (lb : Array Value) (A : Option Addr) (c : Nat) (w : World) :
    Calls Tryz.prog 56 #[.slice A 0 c, .func (.func g) #[] lb] w fun e w' => e = .returned (.int .i64 (-1)) ∧ Below w.heap.size w w' := by
  have hb := Aside0.mk (Below.refl w.heap.size w)
  go_enter Tryz.func56, Tryz.ntmps56
  go_wp2
  go_loopg [8] 1 (fun kq v w' => v = .int .i64 0 ∧ Aside0 (Below w.heap.size w w'))
  case atStart => exact ⟨rfl, hb⟩
  case round =>
    obtain ⟨rfl, HB⟩ := hrel
    go_wp2
    go_ret
    exact ⟨rfl, HB.out⟩
theorem schema_Check.idx (g : Nat) (lb : Array Value) (eg : ∀ args w, (callFunc g args).run Tryz.prog w = .ok (.enter g args) w) (p : S36 → Bool) (A : Option Addr) (c : Nat) (l : List S36) (w : World) (hr : Kd.C k36 w A l.length l) (hbig : l.length ≤ 9223372036854775807)
    (hp : ∀ (W : World) (x : S36), Below w.heap.size w W → Calls Tryz.prog g (#[.agg (schema_Check.cs x).toArray] ++ lb) W fun e w' => e = .returned (.bool (p x)) ∧ Below w.heap.size w w') :
    Calls Tryz.prog 56 #[.slice A l.length c, .func (.func g) #[] lb] w fun e w' => e = .returned (.int .i64 (Lib.idxBy (fun _ y => p y) l z36)) ∧ Below w.heap.size w w' := by
  by_cases hl : 0 < l.length
  · obtain ⟨b, off, rfl, hb, hc⟩ := schema_Check.spread hr hl
    have := @AnyQ.slices_IndexFunc Tryz.prog Tryz.laysQ56_ren S36 ⟨z36⟩ Tryz.laysQ56 4 Tryz.isAgg36 Tryz.sizeOf36 schema_Check.cs (fun _ => rfl) p g lb eg b off l.length c l w hp (Nat.le_refl _) hbig hb (fun j hj i v hi => hc j hj i v (by rw [schema_Check.getBang ⟨z36⟩ l j hj z36] at hi; exact hi))
    rw [List.take_length] at this
    exact this
  · obtain rfl := List.eq_nil_of_length_eq_zero (show l.length = 0 by omega)
    exact schema_Check.idx0 g lb A c w
def schema_Check.nm (s : ByteArray) : Int := (schema_Name.f s).getD 0
theorem schema_Check.nm_is (s : ByteArray) : schema_Name.f s = some (schema_Check.nm s) := rfl
theorem schema_Check.nm_size (s : ByteArray) (h : schema_Check.nm s = 0) : s.size ≤ 32 := by
  unfold schema_Check.nm schema_Name.f at h
  rw [Option.getD_some] at h
  by_cases c : s.size = 0
  · omega
  · rw [if_neg c] at h
    by_cases d : 32 < s.size
    · rw [if_pos d] at h; exact absurd h (by decide)
    · omega
set_option maxHeartbeats 4000000 in
theorem schema_Check.lit (w W : World) (x : S36) (hb : Below w.heap.size w W) :
    Calls Tryz.prog 51 (#[.agg (schema_Check.cs x).toArray] ++ #[]) W fun e w' => e = .returned (.bool (schema_Check.nm x.f0 != 0)) ∧ Below w.heap.size w w' := by
  have HB := Aside0.mk hb
  clear hb
  show Calls Tryz.prog 51 #[.agg #[.string x.f0, .int .i64 x.f1.f0, .int .i64 x.f1.f1, .bool x.f2]] W _
  have AT := Aside0.mk (schema_Check.nm_is x.f0)
  generalize schema_Check.nm x.f0 = v at AT ⊢
  go_enter Tryz.func51, Tryz.ntmps51
  go_wp2_with (go_at_call 24; refine (schema_Name.calls x.f0 v _ AT.out).mono ?_; rintro e w1 ⟨rfl, hb⟩; have HB1 := Aside0.mk (below_step (below_alloc HB.out _) hb); clear hb)
  go_ret
  exact ⟨rfl, HB1.out⟩
set_option maxHeartbeats 4000000 in
theorem schema_Check.cont (A : Option Addr) (c : Nat) (l : List S36) (w : World) (hr : Kd.C k36 w A l.length l) (hbig : l.length ≤ 9223372036854775807) :
    Calls Tryz.prog 50 #[.slice A l.length c, .func (.func 51) #[] #[]] w fun e w' => e = .returned (.bool (l.any fun x => schema_Check.nm x.f0 != 0)) ∧ Below w.heap.size w w' := by
  have eg : ∀ args w, (callFunc 51 args).run Tryz.prog w = .ok (.enter 51 args) w := enters_of Tryz.func51 (by kernel_rfl) rfl
  have h := Aside0.mk (schema_Check.idx 51 #[] eg (fun x => schema_Check.nm x.f0 != 0) A c l w hr hbig (fun W x hb => schema_Check.lit w W x hb))
  have e := Lib.idxBy_nonneg_iff (fun (_ : S36) (y : S36) => schema_Check.nm y.f0 != 0) l z36
  generalize Lib.idxBy (fun (_ : S36) (y : S36) => schema_Check.nm y.f0 != 0) l z36 = i at h e
  rw [← e]
  clear e eg hr hbig
  go_enter Tryz.func50, Tryz.ntmps50
  go_wp2_with (go_at_call 56; refine h.out.mono ?_; rintro e w1 ⟨rfl, hb⟩; have HB1 := Aside0.mk hb; clear hb)
  go_ret
  exact ⟨rfl, HB1.out⟩
section
open Go.Maps
theorem schema_Check.look_bool {H : Type} {P : Program} (w : World) {ops : Array Oper} {rest : List Oper} {o : Oper} {a : Act} {Q : Exit → Act → World → Prop}
    (hg : o.guard = none) (m x : Operand) (t : TypeId) (hop : o.op = Op.lookup t m x false)
    (k e : TypeId) (K : Keyed P k) (ht : P.underlying t = some (.map k e)) (he : P.underlying e = some .bool) (hz : (zeroValue e).run P w = .ok (.bool false) w) (b n : Nat) (D : DataW H)
    (hm : a.eval m = .map (some b)) (hown : w.ownsMap P k (plainElem P e) b n D) (key : Value) (kl : Lit) (hx : a.eval x = key) (hkey : keyOf P k key = some kl) (bb : Bool) (hat : D.atKey kl (.lit (.bool false)) = .lit (.bool bb))
    (hK : wpList P ops Q rest (a.put o.dst (.bool bb)) w) : wpList P ops Q (o :: rest) a w := by
  refine wpList_plain hg fun K' hK' => ?_
  obtain ⟨v, ps, hrun, hv⟩ := hown.lookup K ht hz (plainElem_bool he false) hkey
  have : v = .bool bb := by
    unfold plainElem at hv
    rw [he, hat] at hv
    cases v <;> simp at hv
    rw [hv.1]
  subst this
  unfold Oper.wp
  simp [execOp, hop, hm, hx, hrun, Result.andThen]
  first | exact hK' _ _ hK | exact hK
theorem schema_Check.own_below {H : Type} {P : Program} {k : TypeId} {R : Value → Option (DataW H × List MemPlace)} {w w1 : World} {b n : Nat} {D : DataW H} (h : w.ownsMap P k R b n D) (hb : Below w.heap.size w w1) : w1.ownsMap P k R b n D := by
  obtain ⟨es, clock, hbk, F, hs, hD⟩ := h
  exact ⟨es, clock, blk_below hbk hb, F, hs, hD⟩
theorem schema_Check.cell_on {X w9 : World} {a : Addr} {v : Value} (hx : X.cell? a = some v) (hb : Below X.heap.size X w9) : w9.cell? a = some v := (hb.cell (World.block_lt_of_cell? X _ hx)).trans hx
theorem schema_Check.cell0 {w8 w9 : World} {g : Nat} {a b c d u : Value} (h0 : w8.cell? ⟨g, 0, none⟩ = some u) (hb : Below ((((w8.setCell ⟨g, 0, none⟩ a).setCell ⟨g, 1, none⟩ b).setCell ⟨g, 2, none⟩ c).setCell ⟨g, 3, none⟩ d).heap.size ((((w8.setCell ⟨g, 0, none⟩ a).setCell ⟨g, 1, none⟩ b).setCell ⟨g, 2, none⟩ c).setCell ⟨g, 3, none⟩ d) w9) : w9.cell? ⟨g, 0, none⟩ = some a := by
  refine schema_Check.cell_on ?_ hb
  rw [World.cell?_setCell_other _ _ _ _ (by intro z; exact absurd (Addr.mk.inj z).2.1 (by decide)), World.cell?_setCell_other _ _ _ _ (by intro z; exact absurd (Addr.mk.inj z).2.1 (by decide)), World.cell?_setCell_other _ _ _ _ (by intro z; exact absurd (Addr.mk.inj z).2.1 (by decide))]
  exact World.cell?_setCell_same _ _ _ h0
theorem schema_Check.own_set {H : Type} {P : Program} {k : TypeId} {R : Value → Option (DataW H × List MemPlace)} {w : World} {b n : Nat} {D : DataW H} (h : w.ownsMap P k R b n D) {g j : Nat} (hne : b ≠ g) (v : Value) : (w.setCell ⟨g, j, none⟩ v).ownsMap P k R b n D := h.setCell (a := ⟨g, j, none⟩) hne v
/-- the datum of the map while the columns of 'seen' are in it -/
structure schema_Check.Reads (D : DataW Unit) (seen : List (List UInt8)) : Prop where
  isMap : IsMap D
  at_ : ∀ s : List UInt8, D.atKey (.string s) (.lit (.bool false)) = .lit (.bool (seen.any (· == s)))
theorem schema_Check.Reads.nil : schema_Check.Reads (.map []) [] := ⟨⟨_, rfl⟩, fun s => rfl⟩
theorem schema_Check.Reads.put {D : DataW Unit} {seen : List (List UInt8)} (h : schema_Check.Reads D seen) (s : List UInt8) (hm : IsMap (D.put (.string s) (.lit (.bool true)))) : schema_Check.Reads (D.put (.string s) (.lit (.bool true))) (s :: seen) := by
  refine ⟨hm, fun s' => ?_⟩
  by_cases e : s = s'
  · subst e
    rw [atKey_put_same h.isMap (by trivial)]
    simp
  · rw [atKey_put_other (by intro z; exact e (Lit.string.inj z).symm), h.at_]
    have : (s == s') = false := beq_eq_false_iff_ne.mpr e
    simp [this]
end
def schema_Check.lp : List S36 → List (List UInt8) → Option Int
  | [], _ => some 0
  | c :: r, seen => if seen.any (· == c.f0.data.toList) = true then some 111 else (value_CheckType.f c.f1.f0 c.f1.f1).bind fun t => if t = 0 then schema_Check.lp r (c.f0.data.toList :: seen) else some 111
def schema_Check.f (a0_0 : ByteArray) (l0_1 : List (S36)) : Option (Int) :=
  if l0_1.length ≤ 4611686018427387904 then (if schema_Check.nm a0_0 = 0 then (if (l0_1.any fun x => schema_Check.nm x.f0 != 0) = true then some 110 else (schema_Check.lp l0_1 []).bind fun t => some (if t = 0 then (if l0_1.length = 0 ∨ 32 < l0_1.length then 111 else 0) else t)) else some 110) else none
set_option maxHeartbeats 8000000 in
set_option maxRecDepth 100000 in
theorem schema_Check.calls (a0_0 : ByteArray) (A0_1 : Option Addr) (c0_1 : Nat) (l0_1 : List (S36)) (r : Int) (w : World) (hr0_1 : Kd.C k36 w A0_1 l0_1.length l0_1) (hc0_1 : l0_1.length ≤ c0_1) (h : schema_Check.f a0_0 l0_1 = some r) :
    Calls Tryz.prog 18 #[.agg #[.string a0_0, .slice A0_1 l0_1.length c0_1]] w fun e w' => e = .returned (.int .i64 r) ∧ Below w.heap.size w w' := by
  have hu24 := Tryz.underlying24
  have hu36 := Tryz.underlying36
  unfold schema_Check.f at h
  rcases Nat.lt_or_ge 4611686018427387904 l0_1.length with hbig | hbig
  · rw [if_neg (Nat.not_le.2 hbig)] at h; exact absurd h (by simp)
  rw [if_pos hbig] at h
  clear hc0_1
  have HR := Aside0.mk hr0_1
  have HBIG := Aside0.mk hbig
  have AT := Aside0.mk (schema_Check.nm_is a0_0)
  have HC := fun (W : World) (hW : Below w.heap.size w W) => schema_Check.cont A0_1 c0_1 l0_1 W (Kd.C_below hr0_1 hW) (Nat.le_trans hbig (by decide))
  clear hr0_1 hbig
  rcases Decidable.em (¬ schema_Check.nm a0_0 = 0) with hn | hn
  · rw [if_neg hn] at h
    obtain rfl := Option.some.inj h
    clear h HC HR HBIG
    generalize schema_Check.nm a0_0 = v at AT hn
    have c1 : (v != 0) = true := bne_iff_ne.mpr hn
    have c2 : (v == 0) = false := beq_eq_false_iff_ne.mpr hn
    clear hn
    go_enter Tryz.func18, Tryz.ntmps18
    go_wp2_with (go_at_call 24; refine (schema_Name.calls a0_0 v _ AT.out).mono ?_; rintro e w1 ⟨rfl, hb⟩; have HB1 := Aside0.mk (below_step (below_alloc (Below.refl _ _) _) hb); clear hb)
    go_ret
    exact ⟨rfl, HB1.out⟩
  have hn := Decidable.not_not.1 hn
  rw [if_pos hn] at h
  rw [hn] at AT
  clear hn
  by_cases ha : (l0_1.any fun x => schema_Check.nm x.f0 != 0) = true
  · rw [if_pos ha] at h
    rw [ha] at HC
    obtain rfl := Option.some.inj h
    clear h ha HR HBIG
    have HC := Aside0.mk HC
    go_enter Tryz.func18, Tryz.ntmps18
    go_wp2_with (first
      | (go_at_call 24; refine (schema_Name.calls a0_0 0 _ AT.out).mono ?_; rintro e w1 ⟨rfl, hb⟩; have hA1 := blk_below (blk_new w (.cells #[.string a0_0, .slice A0_1 l0_1.length c0_1] 24)) hb; have hA2 := (blk_cell hA1 1).trans rfl; have HB1 := Aside0.mk (below_step (below_alloc (Below.refl _ _) _) hb); clear hb)
      | (go_at_call 50; refine (HC.out _ HB1.out).mono ?_; rintro e w2 ⟨rfl, hb⟩; have HB2 := Aside0.mk (below_step HB1.out hb); clear hb))
    go_ret
    exact ⟨rfl, HB2.out⟩
  rw [if_neg ha] at h
  have ha' : (l0_1.any fun x => schema_Check.nm x.f0 != 0) = false := by simpa using ha
  have HN : ∀ j : Nat, j < l0_1.length → (rd_T36 l0_1 (j : Int)).f0.size ≤ 32 := fun j hj => by
    refine schema_Check.nm_size _ ?_
    have := (List.any_eq_false.1 ha') (rd_T36 l0_1 (j : Int)) (by unfold rd_T36; rw [show ((j : Int).toNat) = j from rfl, List.getD_eq_getElem?_getD, List.getElem?_eq_getElem hj]; exact List.getElem_mem hj)
    simpa using this
  have HN := Aside0.mk HN
  clear ha
  rw [ha'] at HC
  clear ha'
  obtain ⟨t, hl, hre⟩ := Option.bind_eq_some_iff.1 h
  clear h
  have HRE := Aside0.mk (Option.some.inj hre)
  clear hre
  have HL := Aside0.mk hl
  clear hl
  have HC := Aside0.mk HC
  have hmm := @run_makeMap Tryz.prog
  go_enter Tryz.func18, Tryz.ntmps18
  go_wp2_with (first
      | (go_at_call 24; refine (schema_Name.calls a0_0 0 _ AT.out).mono ?_; rintro e w1 ⟨rfl, hb⟩; have hA1 := blk_below (blk_new w (.cells #[.string a0_0, .slice A0_1 l0_1.length c0_1] 24)) hb; have hA2 := (blk_cell hA1 1).trans rfl; have HB1 := Aside0.mk (below_step (below_alloc (Below.refl _ _) _) hb); clear hb)
      | (go_at_call 50; refine (HC.out _ HB1.out).mono ?_; rintro e w2 ⟨rfl, hb⟩; have hD1 := Aside0.mk (blk_below hA1 hb); have HB2 := Aside0.mk (below_step HB1.out hb); have hD2 : (w2.alloc (.map #[] 0)).cell? ⟨w.heap.size, 1, none⟩ = some (.slice A0_1 l0_1.length c0_1) := (blk_cell (blk_alloc hD1.out _) 1).trans rfl; clear hb))
  have HS2 := Aside0.mk HB2.out.size
  have NE2 := Aside0.mk (Nat.ne_of_lt (blk_lt hD1.out))
  clear AT HC hA1 hA2 HB1 hmm hD2
  go_loopg [19] (l0_1.length + 1) (fun kq v19 w' => ∃ (i : Nat) (seen : List (List UInt8)) (D : DataW Unit), v19 = .int .i64 (i : Int) ∧ Aside0 (i + kq = l0_1.length + 1) ∧ Aside0 (i ≤ l0_1.length) ∧ Aside0 (schema_Check.lp (l0_1.drop i) seen = some t) ∧ Aside0 (w'.ownsMap Tryz.prog 9 (plainElem Tryz.prog 4) w2.heap.size i D) ∧ Aside0 (schema_Check.Reads D seen) ∧ Aside0 (w'.heap[w.heap.size]? = some (.cells #[.string a0_0, .slice A0_1 l0_1.length c0_1] 24 (0, 0))) ∧ Aside0 (Below w.heap.size w w'))
  case atStart => exact ⟨0, [], .map [], rfl, ⟨by omega⟩, ⟨by omega⟩, HL, ⟨World.ownsMap_made _ _ _ _⟩, ⟨schema_Check.Reads.nil⟩, ⟨blk_alloc hD1.out _⟩, ⟨below_alloc HB2.out _⟩⟩
  case round =>
    clear HL hD1 HB2
    obtain ⟨i, seen, D, rfl, HI, HJ, HL, HO, HD, HK, HB⟩ := hrel
    cases gk with
    | zero => exact absurd HI.out (by have := HJ.out; omega)
    | succ k1 =>
      have hz0 : wr.cell? ⟨w.heap.size, 1, none⟩ = some (.slice A0_1 l0_1.length c0_1) := (blk_cell HK.out 1).trans rfl
      rcases Nat.lt_or_ge i l0_1.length with c | c
      · have c0 : decide ((i : Int) < (l0_1.length : Int)) = true := decide_eq_true (by omega)
        obtain ⟨ad, e218, hx0, hx1, hx2, hx3⟩ := at_T36 HR.out (i : Int) (by omega) (by omega)
        have hL := HL.out
        have ec : l0_1[i] = rd_T36 l0_1 (i : Int) := by unfold rd_T36; rw [show ((i : Int).toNat) = i from rfl, List.getD_eq_getElem?_getD, List.getElem?_eq_getElem c]; rfl
        rw [List.drop_eq_getElem_cons c, ec] at hL
        have hsz := HN.out i c
        cases e218
        replace hx0 := (HB.out.cell (World.block_lt_of_cell? w _ hx0)).trans hx0
        replace hx1 := (HB.out.cell (World.block_lt_of_cell? w _ hx1)).trans hx1
        replace hx2 := (HB.out.cell (World.block_lt_of_cell? w _ hx2)).trans hx2
        replace hx3 := (HB.out.cell (World.block_lt_of_cell? w _ hx3)).trans hx3
        rw [show ((i : Int).toNat) = i from rfl] at hx0 hx1 hx2 hx3
        have p1 : ((0 : Int) ≤ (i : Int)) = True := eq_true (by omega)
        have p2 : ((i : Int) < (l0_1.length : Int)) = True := eq_true (by omega)
        have p3 : (i < l0_1.length) = True := eq_true c
        clear HL ec c HN
        generalize rd_T36 l0_1 (i : Int) = cc at hx0 hx1 hx2 hx3 hL hsz
        obtain ⟨cn, ⟨ck, csc⟩, cb⟩ := cc
        have hkey := Aside0.mk (Go.WideMaps.keyOf_string_mk Tryz.underlying9 (s := cn) (Nat.le_trans hsz (by decide)))
        clear hsz
        simp only [schema_Check.lp] at hL
        by_cases hs : seen.any (· == cn.data.toList) = true
        · rw [if_pos hs] at hL
          obtain rfl := Option.some.inj hL
          have hr := HRE.out
          rw [if_neg (by decide)] at hr
          subst hr
          have hat := Aside0.mk ((HD.out.at_ cn.data.toList).trans (by rw [hs]))
          clear hL hs
          go_wp2_with (first | ((with_reducible refine gate_dst (N := 5) rfl ?_); refine box_event ?hg (N := 5) ?hd (cs := #[.string (⟨#[]⟩ : ByteArray), .int .i64 0, .int .i64 0, .bool false]) (t := 36) ?hr ?_; (case hd => rfl); (case hg => rfl); (case hr => first | (go_simp; done) | (go_simp; rfl)); intro gb hg w8 hbox hb; have HB8 := Aside0.mk (below_step HB.out hb); have OWN8 := Aside0.mk (schema_Check.own_below HO.out hb); have BK8 := Aside0.mk (blk_below HK.out hb); have GE8 : Aside0 (w.heap.size ≤ gb) := ⟨by rw [hg]; exact HB.out.size⟩; have NA8 : Aside0 (w.heap.size ≠ gb) := ⟨by rw [hg]; exact Nat.ne_of_lt (blk_lt HK.out)⟩; have NM8 : Aside0 (w2.heap.size ≠ gb) := ⟨by rw [hg]; exact Nat.ne_of_lt HO.out.lt⟩; have BX8 := Aside0.mk hbox; clear hb hbox hg; have hcz0 : w8.cell? ⟨gb, 0, none⟩ = some (.string (⟨#[]⟩ : ByteArray)) := (blk_cell BX8.out 0).trans rfl; have hcz1 : w8.cell? ⟨gb, 1, none⟩ = some (.int .i64 0) := (blk_cell BX8.out 1).trans rfl; have hcz2 : w8.cell? ⟨gb, 2, none⟩ = some (.int .i64 0) := (blk_cell BX8.out 2).trans rfl; have hcz3 : w8.cell? ⟨gb, 3, none⟩ = some (.bool false) := (blk_cell BX8.out 3).trans rfl; have hfz0 := blk_frozen BX8.out 0; have hfz1 := blk_frozen BX8.out 1; have hfz2 := blk_frozen BX8.out 2; have hfz3 := blk_frozen BX8.out 3) | (at_lookup; refine schema_Check.look_bool _ rfl _ _ 79 rfl 9 4 (Go.Maps.string_keyed Tryz.underlying9) Tryz.underlying79 Tryz.underlying4 (Tryz.zeroValue4 _) w2.heap.size i D rfl (by repeat (first | exact OWN8.out | refine schema_Check.own_set ?_ NM8.out _)) _ _ rfl hkey.out true hat.out ?_))
          go_ret
          exact ⟨rfl, by repeat (first | exact HB8.out | refine below_set ?_ GE8.out | apply below_drew1 | apply pw_below_drewN)⟩
        · rw [if_neg hs] at hL
          have hat := Aside0.mk ((HD.out.at_ cn.data.toList).trans (by rw [Bool.eq_false_iff.mpr hs]))
          clear hs
          obtain ⟨tt, hct, hL⟩ := Option.bind_eq_some_iff.1 hL
          have HCT := Aside0.mk hct
          clear hct
          by_cases ht : tt = 0
          · rw [if_pos ht] at hL
            have HL := Aside0.mk hL
            clear hL
            subst ht
            go_wp2_with (first | ((with_reducible refine gate_dst (N := 5) rfl ?_); refine box_event ?hg (N := 5) ?hd (cs := #[.string (⟨#[]⟩ : ByteArray), .int .i64 0, .int .i64 0, .bool false]) (t := 36) ?hr ?_; (case hd => rfl); (case hg => rfl); (case hr => first | (go_simp; done) | (go_simp; rfl)); intro gb hg w8 hbox hb; have HB8 := Aside0.mk (below_step HB.out hb); have OWN8 := Aside0.mk (schema_Check.own_below HO.out hb); have BK8 := Aside0.mk (blk_below HK.out hb); have GE8 : Aside0 (w.heap.size ≤ gb) := ⟨by rw [hg]; exact HB.out.size⟩; have NA8 : Aside0 (w.heap.size ≠ gb) := ⟨by rw [hg]; exact Nat.ne_of_lt (blk_lt HK.out)⟩; have NM8 : Aside0 (w2.heap.size ≠ gb) := ⟨by rw [hg]; exact Nat.ne_of_lt HO.out.lt⟩; have BX8 := Aside0.mk hbox; clear hb hbox hg; have hcz0 : w8.cell? ⟨gb, 0, none⟩ = some (.string (⟨#[]⟩ : ByteArray)) := (blk_cell BX8.out 0).trans rfl; have hcz1 : w8.cell? ⟨gb, 1, none⟩ = some (.int .i64 0) := (blk_cell BX8.out 1).trans rfl; have hcz2 : w8.cell? ⟨gb, 2, none⟩ = some (.int .i64 0) := (blk_cell BX8.out 2).trans rfl; have hcz3 : w8.cell? ⟨gb, 3, none⟩ = some (.bool false) := (blk_cell BX8.out 3).trans rfl; have hfz0 := blk_frozen BX8.out 0; have hfz1 := blk_frozen BX8.out 1; have hfz2 := blk_frozen BX8.out 2; have hfz3 := blk_frozen BX8.out 3) | (at_lookup; refine schema_Check.look_bool _ rfl _ _ 79 rfl 9 4 (Go.Maps.string_keyed Tryz.underlying9) Tryz.underlying79 Tryz.underlying4 (Tryz.zeroValue4 _) w2.heap.size i D rfl (by repeat (first | exact OWN8.out | refine schema_Check.own_set ?_ NM8.out _)) _ _ rfl hkey.out false hat.out ?_) | (go_at_call 52; refine (value_CheckType.calls ck csc 0 _ HCT.out).mono ?_; rintro e w9 ⟨rfl, hb⟩; have HB9 := Aside0.mk (below_step (by repeat (first | exact HB8.out | refine below_set ?_ GE8.out | apply below_drew1 | apply pw_below_drewN)) hb); have OWN9 : Aside0 (w9.ownsMap Tryz.prog 9 (plainElem Tryz.prog 4) w2.heap.size i D) := ⟨schema_Check.own_below (by repeat (first | exact OWN8.out | refine schema_Check.own_set ?_ NM8.out _)) hb⟩; have BK9 : Aside0 (w9.heap[w.heap.size]? = some (.cells #[.string a0_0, .slice (some ad) l0_1.length c0_1] 24 (0, 0))) := ⟨blk_below (by repeat (first | exact BK8.out | refine blk_far ?_ NA8.out _ | refine blk_drewN ?_ _ | refine blk_drew ?_)) hb⟩; have hcn : w9.cell? ⟨gb, 0, none⟩ = some (.string cn) := schema_Check.cell0 hcz0 hb; clear hb) | (at_mapUpdate; refine wpList_mapUpdate_own _ rfl _ _ _ 79 rfl 9 4 (Go.Maps.string_keyed Tryz.underlying9) Tryz.underlying79 (plainElem (H := Unit) Tryz.prog 4) w2.heap.size i D rfl OWN9.out (by have := HJ.out; have := HBIG.out; unfold maxLen; omega) _ _ _ rfl rfl hkey.out _ [] (plainElem_bool Tryz.underlying4 true) ?_; intro w10 hown hgrow; have OWN10 := Aside0.mk hown; have HB10 := Aside0.mk (HB9.out.grown hgrow HB9.out.size (fun j hj => by cases hj; exact HS2.out)); have BK10 := Aside0.mk (blk_grown BK9.out hgrow (by intro z; exact NE2.out (Option.some.inj z))); clear hown hgrow))
            have hw : wrap64 ((i : Int) + 1) = ((i + 1 : Nat) : Int) := by have := HJ.out; have := HBIG.out; unfold wrap64; omega
            go_roundg k1
            case measure => have := HI.out; have := HJ.out; omega
            case rel => exact ⟨i + 1, cn.data.toList :: seen, _, by first | (rw [hw]) | rfl | (simp; done) | (simp [*]; done), ⟨by have := HI.out; omega⟩, ⟨by have := of_eq_true p3; omega⟩, HL, OWN10, ⟨HD.out.put _ OWN10.out.isMap⟩, BK10, HB10⟩
          · rw [if_neg ht] at hL
            obtain rfl := Option.some.inj hL
            have hr := HRE.out
            rw [if_neg (by decide)] at hr
            subst hr
            have c1 : (tt != 0) = true := bne_iff_ne.mpr ht
            have c2 : (tt == 0) = false := beq_eq_false_iff_ne.mpr ht
            clear hL ht
            go_wp2_with (first | ((with_reducible refine gate_dst (N := 5) rfl ?_); refine box_event ?hg (N := 5) ?hd (cs := #[.string (⟨#[]⟩ : ByteArray), .int .i64 0, .int .i64 0, .bool false]) (t := 36) ?hr ?_; (case hd => rfl); (case hg => rfl); (case hr => first | (go_simp; done) | (go_simp; rfl)); intro gb hg w8 hbox hb; have HB8 := Aside0.mk (below_step HB.out hb); have OWN8 := Aside0.mk (schema_Check.own_below HO.out hb); have BK8 := Aside0.mk (blk_below HK.out hb); have GE8 : Aside0 (w.heap.size ≤ gb) := ⟨by rw [hg]; exact HB.out.size⟩; have NA8 : Aside0 (w.heap.size ≠ gb) := ⟨by rw [hg]; exact Nat.ne_of_lt (blk_lt HK.out)⟩; have NM8 : Aside0 (w2.heap.size ≠ gb) := ⟨by rw [hg]; exact Nat.ne_of_lt HO.out.lt⟩; have BX8 := Aside0.mk hbox; clear hb hbox hg; have hcz0 : w8.cell? ⟨gb, 0, none⟩ = some (.string (⟨#[]⟩ : ByteArray)) := (blk_cell BX8.out 0).trans rfl; have hcz1 : w8.cell? ⟨gb, 1, none⟩ = some (.int .i64 0) := (blk_cell BX8.out 1).trans rfl; have hcz2 : w8.cell? ⟨gb, 2, none⟩ = some (.int .i64 0) := (blk_cell BX8.out 2).trans rfl; have hcz3 : w8.cell? ⟨gb, 3, none⟩ = some (.bool false) := (blk_cell BX8.out 3).trans rfl; have hfz0 := blk_frozen BX8.out 0; have hfz1 := blk_frozen BX8.out 1; have hfz2 := blk_frozen BX8.out 2; have hfz3 := blk_frozen BX8.out 3) | (at_lookup; refine schema_Check.look_bool _ rfl _ _ 79 rfl 9 4 (Go.Maps.string_keyed Tryz.underlying9) Tryz.underlying79 Tryz.underlying4 (Tryz.zeroValue4 _) w2.heap.size i D rfl (by repeat (first | exact OWN8.out | refine schema_Check.own_set ?_ NM8.out _)) _ _ rfl hkey.out false hat.out ?_) | (go_at_call 52; refine (value_CheckType.calls ck csc tt _ HCT.out).mono ?_; rintro e w9 ⟨rfl, hb⟩; have HB9 := Aside0.mk (below_step (by repeat (first | exact HB8.out | refine below_set ?_ GE8.out | apply below_drew1 | apply pw_below_drewN)) hb); have OWN9 : Aside0 (w9.ownsMap Tryz.prog 9 (plainElem Tryz.prog 4) w2.heap.size i D) := ⟨schema_Check.own_below (by repeat (first | exact OWN8.out | refine schema_Check.own_set ?_ NM8.out _)) hb⟩; have BK9 : Aside0 (w9.heap[w.heap.size]? = some (.cells #[.string a0_0, .slice (some ad) l0_1.length c0_1] 24 (0, 0))) := ⟨blk_below (by repeat (first | exact BK8.out | refine blk_far ?_ NA8.out _ | refine blk_drewN ?_ _ | refine blk_drew ?_)) hb⟩; have hcn : w9.cell? ⟨gb, 0, none⟩ = some (.string cn) := schema_Check.cell0 hcz0 hb; clear hb))
            go_ret
            exact ⟨rfl, HB9.out⟩
      · have c0 : decide ((i : Int) < (l0_1.length : Int)) = false := decide_eq_false (by omega)
        have e : i = l0_1.length := by have := HJ.out; omega
        have q1 : ((i : Int) < (l0_1.length : Int)) = False := eq_false (by omega)
        have q2 : (i < l0_1.length) = False := eq_false (by omega)
        have hL := HL.out
        rw [e, List.drop_length] at hL
        have et : (0 : Int) = t := Option.some.inj hL
        subst et
        clear e hL HL c
        have q0 : ((l0_1.length : Int) < (l0_1.length : Int)) = False := eq_false (by omega)
        by_cases d0 : l0_1.length = 0
        · have d1 : ((l0_1.length : Int) == 0) = true := beq_iff_eq.mpr (by omega)
          have d2 := HRE.out
          rw [if_pos rfl, if_pos (.inl d0)] at d2
          subst d2
          clear d0
          go_wp2
          go_ret
          exact ⟨rfl, by repeat (first | exact HB.out | apply below_drew1 | apply pw_below_drewN)⟩
        · have d1 : ((l0_1.length : Int) == 0) = false := beq_eq_false_iff_ne.mpr (by omega)
          by_cases d3 : 32 < l0_1.length
          · have d4 : decide ((32 : Int) < (l0_1.length : Int)) = true := decide_eq_true (by omega)
            have d2 := HRE.out
            rw [if_pos rfl, if_pos (.inr d3)] at d2
            subst d2
            clear d0 d3
            go_wp2
            go_ret
            exact ⟨rfl, by repeat (first | exact HB.out | apply below_drew1 | apply pw_below_drewN)⟩
          · have d4 : decide ((32 : Int) < (l0_1.length : Int)) = false := decide_eq_false (by omega)
            have d2 := HRE.out
            rw [if_pos rfl, if_neg (by rintro (z | z); exact d0 z; exact d3 z)] at d2
            subst d2
            clear d0 d3
            go_wp2
            go_ret
            exact ⟨rfl, by repeat (first | exact HB.out | apply below_drew1 | apply pw_below_drewN)⟩


/-- A state of type 141 at block g of W; what its slices lead to came in by w0. -/
def IsS141 (w0 W : World) (g : Nat) (f0 : Bool) (f1 : List Int) : Prop := ∃ A1 c1, W.heap[g]? = some (.cells #[.bool f0, .slice A1 f1.length c1] 141 (0, 0)) ∧ w0.heap.size ≤ g ∧ Kd.C (Kd.int .u8) w0 A1 f1.length f1
theorem IsS141.grown {w0 W : World} {g : Nat} {f0 : Bool} {f1 : List Int} {W1 : World} {row : Option Nat} (h : IsS141 w0 W g f0 f1) (hw : W.grownBy W1 row) (hne : some g ≠ row) : IsS141 w0 W1 g f0 f1 := by
  obtain ⟨A1, c1, hb, hg, hr1⟩ := h
  exact ⟨A1, c1, blk_grown hb hw hne, hg, hr1⟩
theorem IsS141.own_neN {w0 W : World} {g : Nat} {f0 : Bool} {f1 : List Int} {α : Type} {d : Kd α} {e : Nat} {base : Nat} {ok : Nat → Prop} {v : Value} {xs : List α} (h : IsS141 w0 W g f0 f1) (ho : Kd.N d e W base ok v xs) (ht : e ≠ 141) : some g ≠ v.ownBlock := by
  obtain ⟨A1, c1, hb, hg, hr1⟩ := h
  exact Kd.N_ne ho hb ht
theorem IsS141.fresh {w0 W : World} {g : Nat} {f0 : Bool} {f1 : List Int} (h : IsS141 w0 W g f0 f1) : ∀ k, W.heap.size ≤ k → k ≠ g := by
  obtain ⟨A1, c1, hb, hg, hr1⟩ := h
  exact Kd.freshB hb
theorem IsS141.kept {w0 W : World} {g : Nat} {f0 : Bool} {f1 : List Int} {W1 : World} {S : Nat → Prop} (h : IsS141 w0 W g f0 f1) (hk : Kept W W1 S) (hne : ¬ S g) : IsS141 w0 W1 g f0 f1 := by
  obtain ⟨A1, c1, hb, hg, hr1⟩ := h
  exact ⟨A1, c1, blk_kept hb hk hne, hg, hr1⟩
theorem IsS141.below {w0 W : World} {g : Nat} {f0 : Bool} {f1 : List Int} {W1 : World} (h : IsS141 w0 W g f0 f1) (hw : Below W.heap.size W W1) : IsS141 w0 W1 g f0 f1 := h.grown (grown_of_below hw none) (by simp)
theorem IsS141.alloc {w0 W : World} {g : Nat} {f0 : Bool} {f1 : List Int} (h : IsS141 w0 W g f0 f1) (o : Obj) : IsS141 w0 (W.alloc o) g f0 f1 := h.below (below_alloc (Below.refl _ _) o)
theorem IsS141.drewN {w0 W : World} {g : Nat} {f0 : Bool} {f1 : List Int} (h : IsS141 w0 W g f0 f1) (m : Nat) : IsS141 w0 (W.drewN m) g f0 f1 := h
theorem IsS141.drew {w0 W : World} {g : Nat} {f0 : Bool} {f1 : List Int} (h : IsS141 w0 W g f0 f1) : IsS141 w0 W.drew g f0 f1 := h
theorem IsS141.at_ {w0 W : World} {g : Nat} {f0 : Bool} {f1 : List Int} {w' : World} {m : Nat} (hq : W.drewN m = w') (h : IsS141 w0 W g f0 f1) : IsS141 w0 w' g f0 f1 := by subst hq; exact IsS141.drewN h m
theorem IsS141.apart {w0 W : World} {g : Nat} {f0 : Bool} {f1 : List Int} {α : Type} {d : Kd α} {e : Nat} {base : Nat} {ok : Nat → Prop} {v : Value} {xs : List α} (h : IsS141 w0 W g f0 f1) (ho : d.R e W base ok v xs) (ht : ∀ q, q ∈ e :: d.E → q ≠ 141) : d.R e W base (fun k => ok k ∧ k ≠ g) v xs := by
  obtain ⟨A1, c1, hb, hg, hr1⟩ := h
  exact Kd.R_types ho hb ht
theorem IsS141.own_ne {w0 W : World} {g : Nat} {f0 : Bool} {f1 : List Int} {α : Type} {d : Kd α} {e : Nat} {base : Nat} {ok : Nat → Prop} {v : Value} {xs : List α} (h : IsS141 w0 W g f0 f1) (ho : d.R e W base ok v xs) (ht : e ≠ 141) : some g ≠ v.ownBlock := by
  obtain ⟨A1, c1, hb, hg, hr1⟩ := h
  exact Kd.R_ne ho hb ht
theorem IsS141.apartQ {w0 W : World} {g : Nat} {f0 : Bool} {f1 : List Int} {α : Type} {d : Kd α} {e : Nat} {base : Nat} {ok : Nat → Prop} {v : Value} {xs : List α} (h : IsS141 w0 W g f0 f1) (ho : d.Q e W base ok v xs) (ht : ∀ q, q ∈ e :: d.E → q ≠ 141) : d.Q e W base (fun k => ok k ∧ k ≠ g) v xs := by
  obtain ⟨A1, c1, hb, hg, hr1⟩ := h
  exact Kd.Q_types ho hb ht
theorem IsS141.own_neQ {w0 W : World} {g : Nat} {f0 : Bool} {f1 : List Int} {α : Type} {d : Kd α} {e : Nat} {base : Nat} {ok : Nat → Prop} {v : Value} {xs : List α} (h : IsS141 w0 W g f0 f1) (ho : d.Q e W base ok v xs) (ht : e ≠ 141) : some g ≠ v.ownBlock := by
  obtain ⟨A1, c1, hb, hg, hr1⟩ := h
  exact Kd.Q_ne ho hb ht
theorem IsS141.apartS {w0 W : World} {g : Nat} {f0 : Bool} {f1 : List Int} {α : Type} {d : Kd α} {e : Nat} {base : Nat} {ok : Nat → Prop} {v : Value} {xs : List α} (h : IsS141 w0 W g f0 f1) (ho : d.S e W base ok v xs) (ht : ∀ q, q ∈ e :: d.E → q ≠ 141) : d.S e W base (fun k => ok k ∧ k ≠ g) v xs := by
  obtain ⟨A1, c1, hb, hg, hr1⟩ := h
  exact Kd.S_types ho hb ht
theorem IsS141.own_neS {w0 W : World} {g : Nat} {f0 : Bool} {f1 : List Int} {α : Type} {d : Kd α} {e : Nat} {base : Nat} {ok : Nat → Prop} {v : Value} {xs : List α} (h : IsS141 w0 W g f0 f1) (ho : d.S e W base ok v xs) (ht : e ≠ 141) : some g ≠ v.ownBlock := by
  obtain ⟨A1, c1, hb, hg, hr1⟩ := h
  exact Kd.S_ne ho hb ht
theorem IsS141.lt {w0 W : World} {g : Nat} {f0 : Bool} {f1 : List Int} (h : IsS141 w0 W g f0 f1) : g < W.heap.size := by
  obtain ⟨A1, c1, hb, hg, hr1⟩ := h
  exact blk_lt hb
theorem IsS141.ge {w0 W : World} {g : Nat} {f0 : Bool} {f1 : List Int} (h : IsS141 w0 W g f0 f1) : w0.heap.size ≤ g := by
  obtain ⟨A1, c1, hb, hg, hr1⟩ := h
  exact hg
theorem IsS141.ne_blk {w0 W : World} {g : Nat} {f0 : Bool} {f1 : List Int} {a : Nat} {cs : Array Value} {t : TypeId} {fr : Nat × Nat} (h : IsS141 w0 W g f0 f1) (hb2 : W.heap[a]? = some (.cells cs t fr)) (ht : t ≠ 141) : g ≠ a := by
  obtain ⟨A1, c1, hb, hg, hr1⟩ := h
  rintro rfl
  rw [hb] at hb2
  injection hb2 with hb2
  injection hb2 with _ ht2
  exact ht ht2.symm
theorem IsS141.far {w0 W : World} {g : Nat} {f0 : Bool} {f1 : List Int} {p : Addr} (h : IsS141 w0 W g f0 f1) (hne : g ≠ p.block) (u : Value) : IsS141 w0 (W.setCell p u) g f0 f1 := by
  obtain ⟨A1, c1, hb, hg, hr1⟩ := h
  exact ⟨A1, c1, blk_far hb hne u, hg, hr1⟩
theorem cellS141_0 {W : World} {g : Nat} {A1 : Option Addr} {c1 : Nat} {f0 : Bool} {f1 : List Int} (h : W.heap[g]? = some (.cells #[.bool f0, .slice A1 f1.length c1] 141 (0, 0))) : W.cell? ⟨g, 0, none⟩ = some (.bool f0) := (blk_cell h 0).trans rfl
theorem IsS141.set_0 {w0 W : World} {g : Nat} {f0 : Bool} {f1 : List Int} (h : IsS141 w0 W g f0 f1) (x : Bool) : IsS141 w0 (W.setCell ⟨g, 0, none⟩ (.bool x)) g x f1 := by
  obtain ⟨A1, c1, hb, hg, hr1⟩ := h
  exact ⟨A1, c1, by simpa using blk_set hb 0 (.bool x), hg, hr1⟩
theorem cellS141_1 {W : World} {g : Nat} {A1 : Option Addr} {c1 : Nat} {f0 : Bool} {f1 : List Int} (h : W.heap[g]? = some (.cells #[.bool f0, .slice A1 f1.length c1] 141 (0, 0))) : W.cell? ⟨g, 1, none⟩ = some (.slice A1 f1.length c1) := (blk_cell h 1).trans rfl
theorem IsS141.new (w0 W : World) (A1 : Option Addr) (c1 : Nat) (f0 : Bool) (f1 : List Int) (hB : Below w0.heap.size w0 W) (hr1 : Kd.C (Kd.int .u8) w0 A1 f1.length f1) : IsS141 w0 (W.alloc (.cells #[.bool f0, .slice A1 f1.length c1] 141)) W.heap.size f0 f1 := ⟨A1, c1, by simpa using heap_alloc_new W _, hB.size, hr1⟩

/-! ### codec_NewWriter: function 66 -/
def codec_NewWriter.f  : Option (Bool × List Int) := some (true, ([] : List Int))
set_option maxHeartbeats 8000000 in
set_option maxRecDepth 100000 in
theorem codec_NewWriter.calls  (r1 : Bool) (r2 : List Int) (w0 w : World) (hB : Below w0.heap.size w0 w) (h : codec_NewWriter.f  = some (r1, r2)) :
    Calls Tryz.prog 66 #[] w fun e w' => ∃ g_ : Nat, e = .returned (.pointer (some ⟨g_, 0, none⟩)) ∧ IsS141 w0 w' g_ r1 r2 ∧ Below w0.heap.size w0 w' ∧ Below w.heap.size w w' := by
  have hu141 := Tryz.underlying141
  have HBW := Aside0.mk (Below.refl w.heap.size w)
  have HW0 := Aside0.mk hB.size
  have HB := Aside0.mk hB
  clear hB
  have H : (some (true, ([] : List Int))) = some (r1, r2) := h
  clear h
  simp only [Option.some.injEq, Prod.mk.injEq] at H
  obtain ⟨rfl, rfl⟩ := H
  go_enter Tryz.func66, Tryz.ntmps66
  go_wp2_with (first | ((with_reducible refine gate_dst (N := 2) rfl ?_); refine box_event ?hg (N := 2) ?hd (cs := #[.bool true, .slice none 0 0]) (t := 141) ?hr ?_; (case hd => rfl); (case hg => rfl); (case hr => first | (go_simp; done) | (go_simp; rfl)); intro gb215 hg w1 hbox hb; have n0_ := Aside0.mk (below_step HBW.out hb); have n1_ := Aside0.mk (below_step (by repeat (first | (with_reducible first | exact HB.out | apply below_alloc | apply pw_below_drewN | apply below_drew1) | exact HB.out)) hb); have n2_ := Aside0.mk (hbox); have n3_ := Aside0.mk ((by rw [hg]; exact (below_size (by repeat (first | (with_reducible first | exact HBW.out | apply below_alloc | apply pw_below_drewN | apply below_drew1) | exact HBW.out))) : w.heap.size ≤ gb215)); have n4_ := Aside0.mk ((Nat.le_trans HW0.out (by rw [hg]; exact (below_size (by repeat (first | (with_reducible first | exact HBW.out | apply below_alloc | apply pw_below_drewN | apply below_drew1) | exact HBW.out))) : w.heap.size ≤ gb215) : w0.heap.size ≤ gb215)); clear HBW; clear HB; have HBW := n0_; have HB := n1_; have BK215 := n2_; have GW215 := n3_; have GE215 := n4_; clear n0_ n1_ n2_ n3_ n4_; clear hb hbox hg))
  go_ret
  exact ⟨_, rfl, (show IsS141 w0 _ gb215 true ([] : List Int) from ⟨none, 0, by (with_reducible repeat (first | refine blk_drewN ?_ _ | refine blk_drew ?_ | refine blk_alloc ?_ _)); exact BK215.out, GE215.out, (Kd.C_nil _ _)⟩), by repeat (first | (with_reducible first | exact HB.out | apply below_alloc | apply pw_below_drewN | apply below_drew1 | refine below_set ?_ GE215.out) | exact HB.out), by repeat (first | (with_reducible first | exact HBW.out | apply below_alloc | apply pw_below_drewN | apply below_drew1 | refine below_set ?_ GW215.out) | exact HBW.out)⟩

-- NOT PRINTED: function 110 (codec_Writer_more)

/-! ### bytes_Equal: function 40 -/
def bytes_Equal.f (l0 : List Int) (l1 : List Int) : Option (Bool) := some ((strOfNums l0).toList == (strOfNums l1).toList)
set_option maxHeartbeats 8000000 in
set_option maxRecDepth 100000 in
theorem bytes_Equal.calls (A0 : Option Addr) (c0 : Nat) (l0 : List Int) (A1 : Option Addr) (c1 : Nat) (l1 : List Int) (r : Bool) (w : World) (hr0 : Kd.C (Kd.int .u8) w A0 l0.length l0) (hc0 : l0.length ≤ c0) (hr1 : Kd.C (Kd.int .u8) w A1 l1.length l1) (hc1 : l1.length ≤ c1) (h : bytes_Equal.f l0 l1 = some r) :
    Calls Tryz.prog 40 #[.slice A0 l0.length c0, .slice A1 l1.length c1] w fun e w' => e = .returned (.bool r) ∧ Drawn0 w w' := by
  have HR0 := Aside0.mk hr0
  have HC0 := Aside0.mk hc0
  clear hr0 hc0
  have HR1 := Aside0.mk hr1
  have HC1 := Aside0.mk hc1
  clear hr1 hc1
  have H : (some ((strOfNums l0).toList == (strOfNums l1).toList)) = some r := h
  clear h
  obtain rfl := Option.some.inj H
  have hcv3 := Kd.C_string (P := Tryz.prog) (A := A0) (c := c0) Tryz.underlying62 Tryz.underlying5 Tryz.underlying9 HR0.out
  have hcv4 := Kd.C_string (P := Tryz.prog) (A := A1) (c := c1) Tryz.underlying62 Tryz.underlying5 Tryz.underlying9 HR1.out
  go_enter Tryz.func40, Tryz.ntmps40
  go_wp2
  go_ret
  exact ⟨by first | rfl | (simp; done) | (simp [*]; done), by repeat (first | exact Drawn0.refl _ | apply Drawn0.step)⟩

-- NOT PRINTED: function 184 (bytealg_IndexByte)

-- NOT PRINTED: function 152 (bytes_IndexByte)

/-! ### bytealg_Cutover: function 209 -/
def bytealg_Cutover.f (a0 : Int) : Option (Int) := some (wrap64 (Int.tdiv (wrap64 (a0 + 16)) 8))
set_option maxHeartbeats 8000000 in
set_option maxRecDepth 100000 in
theorem bytealg_Cutover.calls (a0 : Int) (r : Int) (w : World) (h : bytealg_Cutover.f a0 = some r) :
    Calls Tryz.prog 209 #[.int .i64 a0] w fun e w' => e = .returned (.int .i64 r) ∧ Drawn0 w w' := by
  have H : (some (wrap64 (Int.tdiv (wrap64 (a0 + 16)) 8))) = some r := h
  clear h
  obtain rfl := Option.some.inj H
  go_enter Tryz.func209, Tryz.ntmps209
  go_wp2
  go_ret
  exact ⟨by first | rfl | (simp; done) | (simp [*]; done), by repeat (first | exact Drawn0.refl _ | apply Drawn0.step)⟩

-- NOT PRINTED: function 234 (bytealg_Index)

/-! ### bytealg_hashStr_byte: function 249 -/
mutual
def bytealg_hashStr_byte.l0 : Nat → List Int → Int → Int → Option (Int × Int)
  | 0, _, _, _ => none
  | k + 1, x0, x4, x5 => if x5 < (x0.length : Int) then (if 0 ≤ x5 then (bytealg_hashStr_byte.l0 k x0 ((((x4 * 16777619) % 4294967296) + ((rd x0 x5) % 4294967296)) % 4294967296) (wrap64 (x5 + 1))) else (none)) else (bytealg_hashStr_byte.l1 k x4 1 16777619 (x0.length : Int))
def bytealg_hashStr_byte.l1 : Nat → Int → Int → Int → Int → Option (Int × Int)
  | 0, _, _, _, _ => none
  | k + 1, x4, x6, x7, x8 => if x8 > 0 then (if (Go.bits .and .i64 x8 1) = 0 then (bytealg_hashStr_byte.l1 k x4 x6 ((x7 * x7) % 4294967296) (x8 / 2)) else (bytealg_hashStr_byte.l1 k x4 ((x6 * x7) % 4294967296) ((x7 * x7) % 4294967296) (x8 / 2))) else (some (x4, x6))
end
def bytealg_hashStr_byte.f (k : Nat) (l0 : List Int) : Option (Int × Int) := bytealg_hashStr_byte.l0 k l0 0 0
theorem bytealg_hashStr_byte.mono_l : ∀ k, (∀ y0 y1 y2, LeO (bytealg_hashStr_byte.l0 k y0 y1 y2) (bytealg_hashStr_byte.l0 (k + 1) y0 y1 y2)) ∧ (∀ y0 y1 y2 y3, LeO (bytealg_hashStr_byte.l1 k y0 y1 y2 y3) (bytealg_hashStr_byte.l1 (k + 1) y0 y1 y2 y3))
  | 0 => ⟨fun _ _ _ r h => by simp [bytealg_hashStr_byte.l0] at h, fun _ _ _ _ r h => by simp [bytealg_hashStr_byte.l1] at h⟩
  | k + 1 => by
    obtain ⟨ih0, ih1⟩ := bytealg_hashStr_byte.mono_l k
    refine ⟨?_, ?_⟩
    · intro y0 y1 y2
      unfold bytealg_hashStr_byte.l0
      repeat' first
      | (with_reducible exact ih0 _ _ _)
      | (with_reducible exact ih1 _ _ _ _)
      | (with_reducible exact LeO.refl _)
      | (with_reducible exact LeO.none _)
      | (with_reducible refine LeO.ite ?_ ?_)
      | (with_reducible refine LeO.bind ?_ (fun _ => ?_))
      | exact ih0 _ _ _
      | exact ih1 _ _ _ _
      | exact LeO.none _
      | refine LeO.ite ?_ ?_
      | refine LeO.bind ?_ (fun _ => ?_)
    · intro y0 y1 y2 y3
      unfold bytealg_hashStr_byte.l1
      repeat' first
      | (with_reducible exact ih0 _ _ _)
      | (with_reducible exact ih1 _ _ _ _)
      | (with_reducible exact LeO.refl _)
      | (with_reducible exact LeO.none _)
      | (with_reducible refine LeO.ite ?_ ?_)
      | (with_reducible refine LeO.bind ?_ (fun _ => ?_))
      | exact ih0 _ _ _
      | exact ih1 _ _ _ _
      | exact LeO.none _
      | refine LeO.ite ?_ ?_
      | refine LeO.bind ?_ (fun _ => ?_)
theorem bytealg_hashStr_byte.mono : ∀ a0 k, LeO (bytealg_hashStr_byte.f k a0) (bytealg_hashStr_byte.f (k + 1) a0) := by
  intro a0 k
  obtain ⟨ih0, ih1⟩ := bytealg_hashStr_byte.mono_l k
  unfold bytealg_hashStr_byte.f
  repeat' first
      | (with_reducible exact ih0 _ _ _)
      | (with_reducible exact ih1 _ _ _ _)
      | (with_reducible exact LeO.refl _)
      | (with_reducible exact LeO.none _)
      | (with_reducible refine LeO.ite ?_ ?_)
      | (with_reducible refine LeO.bind ?_ (fun _ => ?_))
      | exact ih0 _ _ _
      | exact ih1 _ _ _ _
      | exact LeO.none _
      | refine LeO.ite ?_ ?_
      | refine LeO.bind ?_ (fun _ => ?_)
set_option maxHeartbeats 8000000 in
set_option maxRecDepth 100000 in
theorem bytealg_hashStr_byte.calls (k : Nat) (A0 : Option Addr) (c0 : Nat) (l0 : List Int) (r1 : Int) (r2 : Int) (w : World) (hr0 : Kd.C (Kd.int .u8) w A0 l0.length l0) (hc0 : l0.length ≤ c0) (h : bytealg_hashStr_byte.f k l0 = some (r1, r2)) :
    Calls Tryz.prog 249 #[.slice A0 l0.length c0] w fun e w' => e = .returned (.tuple #[.int .u32 r1, .int .u32 r2]) ∧ Drawn0 w w' := by
  have HR0 := Aside0.mk hr0
  have HC0 := Aside0.mk hc0
  clear hr0 hc0
  have H : (bytealg_hashStr_byte.l0 k l0 0 0) = some (r1, r2) := h
  clear h
  have H' := Aside0.mk H
  clear H
  go_enter Tryz.func249, Tryz.ntmps249
  go_wp2
  go_loopg [4, 5] k (fun kq v4 v5 w' => ∃ (x4_1 : Int) (x5_1 : Int), v4 = .int .u32 x4_1 ∧ v5 = .int .i64 x5_1 ∧ Aside0 (bytealg_hashStr_byte.l0 kq l0 x4_1 x5_1 = some (r1, r2)) ∧ Aside0 (kq ≤ k) ∧ Drawn0 w w')
  case atStart => exact ⟨(0), (0), (by first | rfl | (simp; done) | (simp [*]; done)), (by first | rfl | (simp; done) | (simp [*]; done)), H', ⟨Nat.le_refl _⟩, by repeat (first | exact Drawn0.refl _ | apply Drawn0.step)⟩
  case round =>
    clear H'
    obtain ⟨x4_1, x5_1, rfl, rfl, HA, HK1, ⟨m1, rfl⟩⟩ := hrel
    cases gk with
    | zero => exact absurd HA.out (by simp [bytealg_hashStr_byte.l0])
    | succ k1 =>
      have H := HA.out
      clear HA
      simp only [bytealg_hashStr_byte.l0] at H
      by_cases c2 : x5_1 < (l0.length : Int)
      · rw [if_pos c2] at H
        have c2b0 : decide (x5_1 < (l0.length : Int)) = true := decide_eq_true c2
        clear c2
        by_cases c3 : 0 ≤ x5_1
        · rw [if_pos c3] at H
          have c3b0 : decide (0 ≤ x5_1) = true := decide_eq_true c3
          clear c3
          have H' := Aside0.mk H
          clear H
          have p216 : 0 ≤ (x5_1 : Int) := of_decide_eq_true (by first | (with_reducible assumption) | assumption)
          have q216 : x5_1 < (l0.length : Int) := of_decide_eq_true (by first | (with_reducible assumption) | assumption)
          obtain ⟨ad216, e216, hx216_0⟩ := Kd.at_int HR0.out x5_1 p216 q216
          cases e216
          replace p216 := eq_true p216
          replace q216 := eq_true q216
          go_wp2
          go_roundg k1
          case measure => have := HK1.out; omega
          case rel => exact ⟨((((x4_1 * 16777619) % 4294967296) + ((rd l0 x5_1) % 4294967296)) % 4294967296), (wrap64 (x5_1 + 1)), (by first | rfl | (simp; done) | (simp [*]; done)), (by first | rfl | (simp; done) | (simp [*]; done)), H', ⟨by have := HK1.out; omega⟩, by repeat (first | exact Drawn0.refl _ | apply Drawn0.step)⟩
        · rw [if_neg c3] at H
          exact absurd H (by simp)
      · rw [if_neg c2] at H
        have c2b0 : decide (x5_1 < (l0.length : Int)) = false := decide_eq_false c2
        clear c2
        have H' := Aside0.mk H
        clear H
        go_wp2
        go_loopg [6, 7, 8] k1 (fun kq v6 v7 v8 w' => ∃ (x6_2 : Int) (x7_2 : Int) (x8_2 : Int), v6 = .int .u32 x6_2 ∧ v7 = .int .u32 x7_2 ∧ v8 = .int .i64 x8_2 ∧ Aside0 (bytealg_hashStr_byte.l1 kq x4_1 x6_2 x7_2 x8_2 = some (r1, r2)) ∧ Aside0 (kq ≤ k1) ∧ Drawn0 w w')
        case atStart => exact ⟨(1), (16777619), ((l0.length : Int)), (by first | rfl | (simp; done) | (simp [*]; done)), (by first | rfl | (simp; done) | (simp [*]; done)), (by first | rfl | (simp; done) | (simp [*]; done)), H', ⟨Nat.le_refl _⟩, by repeat (first | exact Drawn0.refl _ | apply Drawn0.step)⟩
        case round =>
          clear H'
          try clear c2
          try clear c2b0
          try clear p2
          try clear q2
          try clear hx2
          try clear c3
          try clear c3b0
          try clear hx216_0
          try clear p216
          try clear q216
          obtain ⟨x6_2, x7_2, x8_2, rfl, rfl, rfl, HA, HK2, ⟨m2, rfl⟩⟩ := hrel
          cases gk with
          | zero => exact absurd HA.out (by simp [bytealg_hashStr_byte.l1])
          | succ k2 =>
            have H := HA.out
            clear HA
            simp only [bytealg_hashStr_byte.l1] at H
            by_cases c4 : x8_2 > 0
            · rw [if_pos c4] at H
              have c4b0 : decide (0 < x8_2) = true := decide_eq_true c4
              clear c4
              by_cases c5 : (Go.bits .and .i64 x8_2 1) = 0
              · rw [if_pos c5] at H
                have c5b0 : ((Go.bits .and .i64 x8_2 1) == 0) = true := beq_iff_eq.mpr c5
                have c5b1 : ((Go.bits .and .i64 x8_2 1) != 0) = false := bne_eq_false_iff_eq.mpr c5
                clear c5
                have H' := Aside0.mk H
                clear H
                go_wp2
                go_roundg k2
                case measure => have := HK1.out; have := HK2.out; omega
                case rel => exact ⟨(x6_2), ((x7_2 * x7_2) % 4294967296), (x8_2 / 2), (by first | rfl | (simp; done) | (simp [*]; done)), (by first | rfl | (simp; done) | (simp [*]; done)), (by first | rfl | (simp; done) | (simp [*]; done)), H', ⟨by have := HK1.out; have := HK2.out; omega⟩, by repeat (first | exact Drawn0.refl _ | apply Drawn0.step)⟩
              · rw [if_neg c5] at H
                have c5b0 : ((Go.bits .and .i64 x8_2 1) == 0) = false := beq_eq_false_iff_ne.mpr c5
                have c5b1 : ((Go.bits .and .i64 x8_2 1) != 0) = true := bne_iff_ne.mpr c5
                have H' := Aside0.mk H
                clear H
                go_wp2
                go_roundg k2
                case measure => have := HK1.out; have := HK2.out; omega
                case rel => exact ⟨((x6_2 * x7_2) % 4294967296), ((x7_2 * x7_2) % 4294967296), (x8_2 / 2), (by first | rfl | (simp; done) | (simp [*]; done)), (by first | rfl | (simp; done) | (simp [*]; done)), (by first | rfl | (simp; done) | (simp [*]; done)), H', ⟨by have := HK1.out; have := HK2.out; omega⟩, by repeat (first | exact Drawn0.refl _ | apply Drawn0.step)⟩
            · rw [if_neg c4] at H
              have c4b0 : decide (0 < x8_2) = false := decide_eq_false c4
              clear c4
              simp only [Option.some.injEq, Prod.mk.injEq] at H
              obtain ⟨rfl, rfl⟩ := H
              go_wp2
              go_ret2
              exact ⟨by first | rfl | (simp; done) | (simp [*]; done), by repeat (first | exact Drawn0.refl _ | apply Drawn0.step)⟩

end Go.Proofs.YtmeopdjdjmjngaaGreatDoor.I
