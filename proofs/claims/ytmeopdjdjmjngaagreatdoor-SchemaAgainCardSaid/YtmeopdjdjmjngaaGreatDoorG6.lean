/- PRINTED BY A PROGRAM OF THIS SESSION (px.py, over the kit's print): Lean functions with the answers of Go functions of the given program, and proofs that the Go code comes to these answers; each under the conditions that its theorem states. -/
import Derived.Test.YtmeopdjdjmjngaaGreatDoorG0
import Derived.Test.YtmeopdjdjmjngaaGreatDoorG2
import Derived.Test.YtmeopdjdjmjngaaGreatDoorG3
import Derived.Test.YtmeopdjdjmjngaaGreatDoorG5
namespace Go.Proofs.YtmeopdjdjmjngaaGreatDoor.G
open Go.RowKit Go.Proofs.YtmeopdjdjmjngaaGreatDoorW.PrintWords Go.Proofs.YtmeopdjdjmjngaaGreatDoorW.PrintLast Go.Proofs.YtmeopdjdjmjngaaGreatDoorW.PrintMore
attribute [local go_sem] max2_int min2_int max_two min_two max_three min_three max_four min_four   -- for this text's walks alone
set_option linter.unusedVariables false
set_option linter.unusedSimpArgs false

attribute [local go_sem high] eqA41
/-! ### colonnadelaw11_begun: function 12 -/
def colonnadelaw11_begun.f (k : Nat)  : Option (Bool) := (some (([(⟨(⟨#[97]⟩ : ByteArray), (⟨2, 0⟩ : S34), false⟩ : S36), (⟨(⟨#[98]⟩ : ByteArray), (⟨3, 2⟩ : S34), true⟩ : S36)] : List (S36)) : List (S36))).bind fun y198 => ((schema_Fit.f k (⟨#[116]⟩ : ByteArray) y198 (([(⟨(⟨0, 0⟩ : S34), true, 0, (⟨#[]⟩ : ByteArray)⟩ : S41), (⟨(⟨2, 0⟩ : S34), false, 3, (⟨#[]⟩ : ByteArray)⟩ : S41)] : List (S41)))).bind fun bt205 => ((schema_Show.f k (⟨#[116]⟩ : ByteArray) y198).bind fun t209 => (if t209.toList = ([67, 82, 69, 65, 84, 69, 32, 84, 65, 66, 76, 69, 32, 116, 32, 40, 97, 32, 73, 78, 84, 44, 32, 98, 32, 68, 69, 67, 73, 77, 65, 76, 40, 50, 41, 32, 78, 79, 84, 32, 78, 85, 76, 76, 41] : List UInt8) then (if bt205.2 = 0 then (if (bt205.1.length : Int) = 2 then (if 1 < (bt205.1.length : Int) then (some (((rd_T41 bt205.1 1).f2) == 300)) else (none)) else (none)) else (none)) else (none))))
theorem colonnadelaw11_begun.mono : ∀ k, LeO (colonnadelaw11_begun.f k ) (colonnadelaw11_begun.f (k + 1) ) := by
  intro  k
  unfold colonnadelaw11_begun.f
  repeat' first
      | (with_reducible exact schema_Fit.mono _ _ _ _)
      | (with_reducible exact schema_Show.mono _ _ _)
      | (with_reducible exact LeO.refl _)
      | (with_reducible exact LeO.none _)
      | (with_reducible refine LeO.ite ?_ ?_)
      | (with_reducible refine LeO.bind ?_ (fun _ => ?_))
      | exact schema_Fit.mono _ _ _ _
      | exact schema_Show.mono _ _ _
      | exact LeO.none _
      | refine LeO.ite ?_ ?_
      | refine LeO.bind ?_ (fun _ => ?_)
set_option maxHeartbeats 8000000 in
set_option maxRecDepth 100000 in
theorem colonnadelaw11_begun.calls (k : Nat)  (r : Bool) (w : World) (h : colonnadelaw11_begun.f k  = some r) (hG : Gl w) :
    Calls Tryz.prog 12 #[] w fun e w' => e = .returned (.bool r) ∧ Below w.heap.size w w' := by
  have HG := Aside0.mk hG
  clear hG
  have hu34 := Tryz.underlying34
  have hu36 := Tryz.underlying36
  have hu24 := Tryz.underlying24
  have hu41 := Tryz.underlying41
  have HB := Aside0.mk (Below.refl w.heap.size w)
  have H : ((some (([(⟨(⟨#[97]⟩ : ByteArray), (⟨2, 0⟩ : S34), false⟩ : S36), (⟨(⟨#[98]⟩ : ByteArray), (⟨3, 2⟩ : S34), true⟩ : S36)] : List (S36)) : List (S36))).bind fun y198 => ((schema_Fit.f k (⟨#[116]⟩ : ByteArray) y198 (([(⟨(⟨0, 0⟩ : S34), true, 0, (⟨#[]⟩ : ByteArray)⟩ : S41), (⟨(⟨2, 0⟩ : S34), false, 3, (⟨#[]⟩ : ByteArray)⟩ : S41)] : List (S41)))).bind fun bt205 => ((schema_Show.f k (⟨#[116]⟩ : ByteArray) y198).bind fun t209 => (if t209.toList = ([67, 82, 69, 65, 84, 69, 32, 84, 65, 66, 76, 69, 32, 116, 32, 40, 97, 32, 73, 78, 84, 44, 32, 98, 32, 68, 69, 67, 73, 77, 65, 76, 40, 50, 41, 32, 78, 79, 84, 32, 78, 85, 76, 76, 41] : List UInt8) then (if bt205.2 = 0 then (if (bt205.1.length : Int) = 2 then (if 1 < (bt205.1.length : Int) then (some (((rd_T41 bt205.1 1).f2) == 300)) else (none)) else (none)) else (none)) else (none))))) = some r := h
  clear h
  obtain ⟨y198, hy198⟩ : ∃ y_ : List (S36), y_ = (([(⟨(⟨#[97]⟩ : ByteArray), (⟨2, 0⟩ : S34), false⟩ : S36), (⟨(⟨#[98]⟩ : ByteArray), (⟨3, 2⟩ : S34), true⟩ : S36)] : List (S36))) := ⟨_, rfl⟩
  replace H : ((schema_Fit.f k (⟨#[116]⟩ : ByteArray) y198 (([(⟨(⟨0, 0⟩ : S34), true, 0, (⟨#[]⟩ : ByteArray)⟩ : S41), (⟨(⟨2, 0⟩ : S34), false, 3, (⟨#[]⟩ : ByteArray)⟩ : S41)] : List (S41)))).bind fun bt205 => ((schema_Show.f k (⟨#[116]⟩ : ByteArray) y198).bind fun t209 => (if t209.toList = ([67, 82, 69, 65, 84, 69, 32, 84, 65, 66, 76, 69, 32, 116, 32, 40, 97, 32, 73, 78, 84, 44, 32, 98, 32, 68, 69, 67, 73, 77, 65, 76, 40, 50, 41, 32, 78, 79, 84, 32, 78, 85, 76, 76, 41] : List UInt8) then (if bt205.2 = 0 then (if (bt205.1.length : Int) = 2 then (if 1 < (bt205.1.length : Int) then (some (((rd_T41 bt205.1 1).f2) == 300)) else (none)) else (none)) else (none)) else (none)))) = some r := by first | (rw [hy198]; with_reducible exact H) | (have H2_ := (Option.bind_some _ _).symm.trans H; rw [hy198]; with_reducible exact H2_) | (have H2_ := (Option.bind_some _ _).symm.trans H; with_reducible exact H2_) | with_reducible exact H | (rw [hy198]; exact H) | exact H
  have Ny198 := Aside0.mk hy198
  clear hy198
  obtain ⟨y202, hy202⟩ : ∃ y_ : List (S41), y_ = (([(⟨(⟨0, 0⟩ : S34), true, 0, (⟨#[]⟩ : ByteArray)⟩ : S41), (⟨(⟨2, 0⟩ : S34), false, 3, (⟨#[]⟩ : ByteArray)⟩ : S41)] : List (S41))) := ⟨_, rfl⟩
  replace H : ((schema_Fit.f k (⟨#[116]⟩ : ByteArray) y198 y202).bind fun bt205 => ((schema_Show.f k (⟨#[116]⟩ : ByteArray) y198).bind fun t209 => (if t209.toList = ([67, 82, 69, 65, 84, 69, 32, 84, 65, 66, 76, 69, 32, 116, 32, 40, 97, 32, 73, 78, 84, 44, 32, 98, 32, 68, 69, 67, 73, 77, 65, 76, 40, 50, 41, 32, 78, 79, 84, 32, 78, 85, 76, 76, 41] : List UInt8) then (if bt205.2 = 0 then (if (bt205.1.length : Int) = 2 then (if 1 < (bt205.1.length : Int) then (some (((rd_T41 bt205.1 1).f2) == 300)) else (none)) else (none)) else (none)) else (none)))) = some r := by first | (rw [hy202]; with_reducible exact H) | (have H2_ := (Option.bind_some _ _).symm.trans H; rw [hy202]; with_reducible exact H2_) | (have H2_ := (Option.bind_some _ _).symm.trans H; with_reducible exact H2_) | with_reducible exact H | (rw [hy202]; exact H) | exact H
  have Ny202 := Aside0.mk hy202
  clear hy202
  replace H := Option.bind_eq_some_iff.mp H
  obtain ⟨⟨t205, t208⟩, A10, H⟩ := H
  replace H : ((schema_Show.f k (⟨#[116]⟩ : ByteArray) y198).bind fun t209 => (if t209.toList = ([67, 82, 69, 65, 84, 69, 32, 84, 65, 66, 76, 69, 32, 116, 32, 40, 97, 32, 73, 78, 84, 44, 32, 98, 32, 68, 69, 67, 73, 77, 65, 76, 40, 50, 41, 32, 78, 79, 84, 32, 78, 85, 76, 76, 41] : List UInt8) then (if t208 = 0 then (if (t205.length : Int) = 2 then (if 1 < (t205.length : Int) then (some (((rd_T41 t205 1).f2) == 300)) else (none)) else (none)) else (none)) else (none))) = some r := H
  have A1 := Aside0.mk A10
  clear A10
  replace H := Option.bind_eq_some_iff.mp H
  obtain ⟨t209, A20, H⟩ := H
  replace H : (if t209.toList = ([67, 82, 69, 65, 84, 69, 32, 84, 65, 66, 76, 69, 32, 116, 32, 40, 97, 32, 73, 78, 84, 44, 32, 98, 32, 68, 69, 67, 73, 77, 65, 76, 40, 50, 41, 32, 78, 79, 84, 32, 78, 85, 76, 76, 41] : List UInt8) then (if t208 = 0 then (if (t205.length : Int) = 2 then (if 1 < (t205.length : Int) then (some (((rd_T41 t205 1).f2) == 300)) else (none)) else (none)) else (none)) else (none)) = some r := H
  have A2 := Aside0.mk A20
  clear A20
  by_cases c3 : t209.toList = ([67, 82, 69, 65, 84, 69, 32, 84, 65, 66, 76, 69, 32, 116, 32, 40, 97, 32, 73, 78, 84, 44, 32, 98, 32, 68, 69, 67, 73, 77, 65, 76, 40, 50, 41, 32, 78, 79, 84, 32, 78, 85, 76, 76, 41] : List UInt8)
  · rw [if_pos c3] at H
    have c3b0 : (t209.toList == ([67, 82, 69, 65, 84, 69, 32, 84, 65, 66, 76, 69, 32, 116, 32, 40, 97, 32, 73, 78, 84, 44, 32, 98, 32, 68, 69, 67, 73, 77, 65, 76, 40, 50, 41, 32, 78, 79, 84, 32, 78, 85, 76, 76, 41] : List UInt8)) = true := beq_iff_eq.mpr c3
    have c3b1 : (t209.toList != ([67, 82, 69, 65, 84, 69, 32, 84, 65, 66, 76, 69, 32, 116, 32, 40, 97, 32, 73, 78, 84, 44, 32, 98, 32, 68, 69, 67, 73, 77, 65, 76, 40, 50, 41, 32, 78, 79, 84, 32, 78, 85, 76, 76, 41] : List UInt8)) = false := bne_eq_false_iff_eq.mpr c3
    clear c3
    by_cases c4 : t208 = 0
    · rw [if_pos c4] at H
      have c4b0 : (t208 == 0) = true := beq_iff_eq.mpr c4
      have c4b1 : (t208 != 0) = false := bne_eq_false_iff_eq.mpr c4
      clear c4
      by_cases c5 : (t205.length : Int) = 2
      · rw [if_pos c5] at H
        have c5b0 : ((t205.length : Int) == 2) = true := beq_iff_eq.mpr c5
        have c5b1 : ((t205.length : Int) != 2) = false := bne_eq_false_iff_eq.mpr c5
        clear c5
        by_cases c6 : 1 < (t205.length : Int)
        · rw [if_pos c6] at H
          have c6b0 : decide (1 < (t205.length : Int)) = true := decide_eq_true c6
          have c6b1 : decide (1 < t205.length) = true := decide_eq_true (by omega)
          clear c6
          obtain rfl := Option.some.inj H
          go_enter Tryz.func12, Tryz.ntmps12
          go_wp2_with (first | ((with_reducible refine gate_dst (N := 8) rfl ?_); (try (refine gate_guard (by rfl) ?_; dsimp only)); refine Kd.R_lit k36 _ 36 ?hg (N := 8) ?hd (xs := ([(⟨(⟨#[97]⟩ : ByteArray), (⟨2, 0⟩ : S34), false⟩ : S36), (⟨(⟨#[98]⟩ : ByteArray), (⟨3, 2⟩ : S34), true⟩ : S36)] : List (S36))) (inner := [.string (⟨#[97]⟩ : ByteArray), .int .i64 2, .int .i64 0, .bool false, .string (⟨#[98]⟩ : ByteArray), .int .i64 3, .int .i64 2, .bool true]) (ok := fun _ => True) (okp := fun _ => True) ?hr ?hp (fun _ hk => hk) trivial (Below.refl _ _) (Nat.le_refl _) (by simp) ?_; (case hd => rfl); (case hg => rfl); (case hr => first | (go_simp; done) | (go_simp; rfl)); (case hp => exact (Reps.c4 (show Kd.M k36 _ _ _ (⟨(⟨#[97]⟩ : ByteArray), (⟨2, 0⟩ : S34), false⟩ : S36) [.string (⟨#[97]⟩ : ByteArray), .int .i64 2, .int .i64 0, .bool false] from (k36_mkM _ _ _ (⟨(⟨#[97]⟩ : ByteArray), (⟨2, 0⟩ : S34), false⟩ : S36) )) (Reps.c4 (show Kd.M k36 _ _ _ (⟨(⟨#[98]⟩ : ByteArray), (⟨3, 2⟩ : S34), true⟩ : S36) [.string (⟨#[98]⟩ : ByteArray), .int .i64 3, .int .i64 2, .bool true] from (k36_mkM _ _ _ (⟨(⟨#[98]⟩ : ByteArray), (⟨3, 2⟩ : S34), true⟩ : S36) )) (Reps.none _ _)))); intro v199 w7 ho8 hb hg_ hnew_; clear hg_ hnew_; (first | rw [← Ny198.out] at ho8 | (simp only [Int.reduceToNat] at ho8; rw [← Ny198.out] at ho8)); have n0_ := Aside0.mk (Kd.R_lower ho8 (below_size (by repeat (first | (with_reducible first | exact HB.out | apply below_alloc | apply pw_below_drewN | apply below_drew1) | exact HB.out)))); have n1_ := Aside0.mk (below_step (by repeat (first | (with_reducible first | exact HB.out | apply below_alloc | apply pw_below_drewN | apply below_drew1) | exact HB.out)) hb); clear HB; have HO200 := n0_; have HB := n1_; clear n0_ n1_; clear hb ho8; obtain ⟨Ao9, co9, eo9⟩ := Kd.R_slice HO200.out; subst eo9) | ((with_reducible refine gate_dst (N := 1) rfl ?_); (try (refine gate_guard (by rfl) ?_; dsimp only)); refine box_event ?hg (N := 1) ?hd (cs := #[.string (⟨#[]⟩ : ByteArray), .slice none 0 0]) (t := 24) ?hr ?_; (case hd => rfl); (case hg => rfl); (case hr => first | (go_simp; done) | (go_simp; rfl)); intro gb201 hg w10 hbox hb; have n0_ := Aside0.mk (Kd.R_below (by (with_reducible repeat (first | apply Kd.R_alloc | apply Kd.R_drewN | apply Kd.R_drew)); exact HO200.out) hb); have n1_ := Aside0.mk (below_step (by repeat (first | (with_reducible first | exact HB.out | apply below_alloc | apply pw_below_drewN | apply below_drew1) | exact HB.out)) hb); have n2_ := Aside0.mk (hbox); have n3_ := Aside0.mk ((by rw [hg]; exact (below_size (by repeat (first | (with_reducible first | exact HB.out | apply below_alloc | apply pw_below_drewN | apply below_drew1) | exact HB.out))) : w.heap.size ≤ gb201)); have n4_ := Aside0.mk ((by rw [hg]; exact (below_size (by repeat (first | (with_reducible first | exact HB.out | apply below_alloc | apply pw_below_drewN | apply below_drew1) | exact HB.out))) : w.heap.size ≤ gb201)); clear HO200; clear HB; have HO200 := n0_; have HB := n1_; have BK201 := n2_; have GW201 := n3_; have GE201 := n4_; clear n0_ n1_ n2_ n3_ n4_; clear hb hbox hg; have hcz11_0 : w10.cell? ⟨gb201, 0, none⟩ = some (.string (⟨#[]⟩ : ByteArray)) := (blk_cell BK201.out 0).trans rfl; have hcz11_1 : w10.cell? ⟨gb201, 1, none⟩ = some (.slice none 0 0) := (blk_cell BK201.out 1).trans rfl; have hfz11_0 := blk_frozen BK201.out 0; have hfz11_1 := blk_frozen BK201.out 1) | ((with_reducible refine gate_dst (N := 15) rfl ?_); (try (refine gate_guard (by rfl) ?_; dsimp only)); refine Kd.R_lit k41 _ 41 ?hg (N := 15) ?hd (xs := ([(⟨(⟨0, 0⟩ : S34), true, 0, (⟨#[]⟩ : ByteArray)⟩ : S41), (⟨(⟨2, 0⟩ : S34), false, 3, (⟨#[]⟩ : ByteArray)⟩ : S41)] : List (S41))) (inner := [.int .i64 0, .int .i64 0, .bool true, .int .i64 0, .string (⟨#[]⟩ : ByteArray), .int .i64 2, .int .i64 0, .bool false, .int .i64 3, .string (⟨#[]⟩ : ByteArray)]) (ok := fun _ => True) (okp := fun _ => True) ?hr ?hp (fun _ hk => hk) trivial (Below.refl _ _) (Nat.le_refl _) (by simp) ?_; (case hd => rfl); (case hg => rfl); (case hr => first | (go_simp; done) | (go_simp; rfl)); (case hp => exact (Reps.c5 (show Kd.M k41 _ _ _ (⟨(⟨0, 0⟩ : S34), true, 0, (⟨#[]⟩ : ByteArray)⟩ : S41) [.int .i64 0, .int .i64 0, .bool true, .int .i64 0, .string (⟨#[]⟩ : ByteArray)] from (k41_mkM _ _ _ (⟨(⟨0, 0⟩ : S34), true, 0, (⟨#[]⟩ : ByteArray)⟩ : S41) )) (Reps.c5 (show Kd.M k41 _ _ _ (⟨(⟨2, 0⟩ : S34), false, 3, (⟨#[]⟩ : ByteArray)⟩ : S41) [.int .i64 2, .int .i64 0, .bool false, .int .i64 3, .string (⟨#[]⟩ : ByteArray)] from (k41_mkM _ _ _ (⟨(⟨2, 0⟩ : S34), false, 3, (⟨#[]⟩ : ByteArray)⟩ : S41) )) (Reps.none _ _)))); intro v203 w12 ho13 hb hg_ hnew_; clear hg_ hnew_; (first | rw [← Ny202.out] at ho13 | (simp only [Int.reduceToNat] at ho13; rw [← Ny202.out] at ho13)); have n0_ := Aside0.mk (Kd.R_below (by (with_reducible repeat (first | apply Kd.R_alloc | apply Kd.R_drewN | apply Kd.R_drew)); exact (Kd.R_mono (Kd.R_far (p := ⟨gb201, 1, none⟩) (Kd.R_far (p := ⟨gb201, 0, none⟩) (Kd.R_types HO200.out BK201.out (by decide)) (fun _ hk => hk.2) (.string (⟨#[116]⟩ : ByteArray))) (fun _ hk => hk.2) (.slice Ao9 y198.length co9)) (fun _ h_ => h_.1))) hb); have n1_ := Aside0.mk (Kd.R_lower ho13 (below_size (by repeat (first | (with_reducible first | exact HB.out | apply below_alloc | apply pw_below_drewN | apply below_drew1 | refine below_set ?_ GE201.out) | exact HB.out)))); have n2_ := Aside0.mk (blk_below (g := gb201) (o := .cells #[.string (⟨#[116]⟩ : ByteArray), .slice Ao9 y198.length co9] 24 (0, 0)) (by (with_reducible repeat (first | refine blk_drewN ?_ _ | refine blk_drew ?_ | refine blk_alloc ?_ _)); refine blk_put (cs := #[.string (⟨#[116]⟩ : ByteArray), .slice none 0 0]) ?_ 1 _ rfl; (with_reducible repeat (first | refine blk_drewN ?_ _ | refine blk_drew ?_ | refine blk_alloc ?_ _)); refine blk_put (cs := #[.string (⟨#[]⟩ : ByteArray), .slice none 0 0]) ?_ 0 _ rfl; (with_reducible repeat (first | refine blk_drewN ?_ _ | refine blk_drew ?_ | refine blk_alloc ?_ _)); exact BK201.out) hb); have n3_ := Aside0.mk (below_step (by repeat (first | (with_reducible first | exact HB.out | apply below_alloc | apply pw_below_drewN | apply below_drew1 | refine below_set ?_ GE201.out) | exact HB.out)) hb); clear HO200; clear BK201; clear HB; have HO200 := n0_; have HO204 := n1_; have BK201 := n2_; have HB := n3_; clear n0_ n1_ n2_ n3_; clear hb ho13; obtain ⟨Ao14, co14, eo14⟩ := Kd.R_slice HO204.out; subst eo14) | ((with_reducible refine gate_callee (f := 10) rfl ?_); refine goesL_ (some 16) rfl rfl Tryz.func10 (by kernel_rfl) rfl #[.agg #[.string (⟨#[116]⟩ : ByteArray), .slice Ao9 y198.length co9], .slice Ao14 y202.length co14] rfl (by (try simp only [List.map_toArray, List.map_cons, List.map_nil]); first | done | rfl | (simp only [List.length_drop, List.length_take]; rfl)) ?_; (with_reducible refine (schema_Fit.calls k (⟨#[116]⟩ : ByteArray) _ _ y198 _ _ y202 t205 t208 _ ?side1 ?side2 ?side3 ?side4 A1.out).mono ?_); (case side1 => repeat (first | exact (Kd.R_reads' HO200.out).2.2 | (with_reducible refine Kd.C_alloc ?_ _) | (with_reducible refine Kd.C_drewN ?_ _) | (with_reducible refine Kd.C_drew ?_))); (case side2 => exact (Kd.R_reads' HO200.out).2.1); (case side3 => repeat (first | exact (Kd.R_reads' HO204.out).2.2 | (with_reducible refine Kd.C_alloc ?_ _) | (with_reducible refine Kd.C_drewN ?_ _) | (with_reducible refine Kd.C_drew ?_))); (case side4 => exact (Kd.R_reads' HO204.out).2.1); rintro e w15 ⟨v206, rfl, ho0, hb⟩; refine ⟨_, rfl, ?_⟩; have n0_ := Aside0.mk (Kd.R_below (by (with_reducible repeat (first | apply Kd.R_alloc | apply Kd.R_drewN | apply Kd.R_drew)); exact HO200.out) hb); have n1_ := Aside0.mk (Kd.R_elder' (by (with_reducible repeat (first | apply Kd.R_alloc | apply Kd.R_drewN | apply Kd.R_drew)); exact HO204.out) (Kd.R_base ho0) hb); have n2_ := Aside0.mk (Kd.R_lower (Kd.R_new' ho0 (Kd.R_lt (by (with_reducible repeat (first | apply Kd.R_alloc | apply Kd.R_drewN | apply Kd.R_drew)); exact HO204.out))) (below_size (by repeat (first | (with_reducible first | exact HB.out | apply below_alloc | apply pw_below_drewN | apply below_drew1 | refine below_set ?_ GE201.out) | exact HB.out)))); have n3_ := Aside0.mk (blk_below (g := gb201) (o := .cells #[.string (⟨#[116]⟩ : ByteArray), .slice Ao9 y198.length co9] 24 (0, 0)) (by (with_reducible repeat (first | refine blk_drewN ?_ _ | refine blk_drew ?_ | refine blk_alloc ?_ _)); exact BK201.out) hb); have n4_ := Aside0.mk (below_step (by repeat (first | (with_reducible first | exact HB.out | apply below_alloc | apply pw_below_drewN | apply below_drew1 | refine below_set ?_ GE201.out) | exact HB.out)) hb); clear HO200; clear HO204; clear BK201; clear HB; have HO200 := n0_; have HO204 := n1_; have HO207 := n2_; have BK201 := n3_; have HB := n4_; clear n0_ n1_ n2_ n3_ n4_; (try clear hb); (try clear hb2); (try clear hk); (try clear hi); (try clear ho0); have hcz16_0 : w15.cell? ⟨gb201, 0, none⟩ = some (.string (⟨#[116]⟩ : ByteArray)) := (blk_cell BK201.out 0).trans rfl; have hcz16_1 : w15.cell? ⟨gb201, 1, none⟩ = some (.slice Ao9 y198.length co9) := (blk_cell BK201.out 1).trans rfl; have hfz16_0 := blk_frozen BK201.out 0; have hfz16_1 := blk_frozen BK201.out 1) | ((with_reducible refine gate_callee (f := 16) rfl ?_); refine goesL_ (some 20) rfl rfl Tryz.func16 (by kernel_rfl) rfl #[.agg #[.string (⟨#[116]⟩ : ByteArray), .slice Ao9 y198.length co9]] rfl (by (try simp only [List.map_toArray, List.map_cons, List.map_nil]); first | done | rfl | (simp only [List.length_drop, List.length_take]; rfl)) ?_; (with_reducible refine (schema_Show.calls k (⟨#[116]⟩ : ByteArray) _ _ y198 t209 _ ?side1 ?side2 A2.out (Gl.of HG.out (by repeat (first | exact HB.out | apply below_alloc | apply pw_below_drewN | apply below_drew1 | refine below_set ?_ GE201.out)))).mono ?_); (case side1 => repeat (first | exact (Kd.R_reads' HO200.out).2.2 | (with_reducible refine Kd.C_alloc ?_ _) | (with_reducible refine Kd.C_drewN ?_ _) | (with_reducible refine Kd.C_drew ?_))); (case side2 => exact (Kd.R_reads' HO200.out).2.1); rintro e w17 ⟨rfl, hb⟩; refine ⟨_, rfl, ?_⟩; have n0_ := Aside0.mk (Kd.R_below (by (with_reducible repeat (first | apply Kd.R_alloc | apply Kd.R_drewN | apply Kd.R_drew)); exact HO200.out) hb); have n1_ := Aside0.mk (Kd.R_below (by (with_reducible repeat (first | apply Kd.R_alloc | apply Kd.R_drewN | apply Kd.R_drew)); exact HO204.out) hb); have n2_ := Aside0.mk (Kd.R_below (by (with_reducible repeat (first | apply Kd.R_alloc | apply Kd.R_drewN | apply Kd.R_drew)); exact HO207.out) hb); have n3_ := Aside0.mk (blk_below (g := gb201) (o := .cells #[.string (⟨#[116]⟩ : ByteArray), .slice Ao9 y198.length co9] 24 (0, 0)) (by (with_reducible repeat (first | refine blk_drewN ?_ _ | refine blk_drew ?_ | refine blk_alloc ?_ _)); exact BK201.out) hb); have n4_ := Aside0.mk (below_step (by repeat (first | (with_reducible first | exact HB.out | apply below_alloc | apply pw_below_drewN | apply below_drew1 | refine below_set ?_ GE201.out) | exact HB.out)) hb); clear HO200; clear HO204; clear HO207; clear BK201; clear HB; have HO200 := n0_; have HO204 := n1_; have HO207 := n2_; have BK201 := n3_; have HB := n4_; clear n0_ n1_ n2_ n3_ n4_; (try clear hb); (try clear hb2); (try clear hk); (try clear hi); obtain ⟨Ao18, co18, eo18⟩ := Kd.R_slice HO207.out; subst eo18; have p210 : 0 ≤ (1 : Int) := (by omega); have q210 : 1 < (t205.length : Int) := of_decide_eq_true (by first | (with_reducible assumption) | assumption); obtain ⟨ad210, e210, hx210_0, hx210_1, hx210_2, hx210_3, hx210_4⟩ := at_T41 (Kd.R_reads' HO207.out).2.2 1 p210 q210; cases e210; (try simp only [show (1 : Int).toNat = 1 from rfl, Nat.reduceMul, Nat.reduceEqDiff, Go.Addr.add, ↓reduceIte] at hx210_0); (try simp only [show (1 : Int).toNat = 1 from rfl, Nat.reduceMul, Nat.reduceEqDiff, Go.Addr.add, ↓reduceIte] at hx210_1); (try simp only [show (1 : Int).toNat = 1 from rfl, Nat.reduceMul, Nat.reduceEqDiff, Go.Addr.add, ↓reduceIte] at hx210_2); (try simp only [show (1 : Int).toNat = 1 from rfl, Nat.reduceMul, Nat.reduceEqDiff, Go.Addr.add, ↓reduceIte] at hx210_3); (try simp only [show (1 : Int).toNat = 1 from rfl, Nat.reduceMul, Nat.reduceEqDiff, Go.Addr.add, ↓reduceIte] at hx210_4); have qi210 : (1 < t205.length) = True := eq_true (by omega); (try rw [show ((1 : Int)).toNat = 1 from rfl] at hx210_0); (try rw [show 1 * 5 = 5 from rfl] at hx210_0); (try rw [show ((1 : Int)).toNat = 1 from rfl] at hx210_1); (try rw [show 1 * 5 = 5 from rfl] at hx210_1); (try rw [show ((1 : Int)).toNat = 1 from rfl] at hx210_2); (try rw [show 1 * 5 = 5 from rfl] at hx210_2); (try rw [show ((1 : Int)).toNat = 1 from rfl] at hx210_3); (try rw [show 1 * 5 = 5 from rfl] at hx210_3); (try rw [show ((1 : Int)).toNat = 1 from rfl] at hx210_4); (try rw [show 1 * 5 = 5 from rfl] at hx210_4); replace p210 := eq_true p210; replace q210 := eq_true q210))
          go_ret
          exact ⟨by first | rfl | (simp [errW_none, errW_some] <;> rfl) | (simp [*, errW_none, errW_some] <;> rfl), by repeat (first | (with_reducible first | exact HB.out | apply below_alloc | apply pw_below_drewN | apply below_drew1 | refine below_set ?_ GE201.out) | exact HB.out)⟩
        · rw [if_neg c6] at H
          exact absurd H (by simp)
      · rw [if_neg c5] at H
        exact absurd H (by simp)
    · rw [if_neg c4] at H
      exact absurd H (by simp)
  · rw [if_neg c3] at H
    exact absurd H (by simp)

/-! ### colonnaderef02_Same: function 13 -/
def colonnaderef02_Same.l0 : Nat → List (S41) → List (S41) → Int → Option (Bool)
  | 0, _, _, _ => none
  | k + 1, x0, x1, x5 => if x5 < (x0.length : Int) then (if 0 ≤ x5 then (if x5 < (x1.length : Int) then (if ((!(((rd_T41 x0 x5).f0.f0) == ((rd_T41 x1 x5).f0.f0)) || (!(((rd_T41 x0 x5).f0.f1) == ((rd_T41 x1 x5).f0.f1)))) || (!(((rd_T41 x0 x5).f1) == ((rd_T41 x1 x5).f1)) || (!(((rd_T41 x0 x5).f2) == ((rd_T41 x1 x5).f2)) || (!((((rd_T41 x0 x5).f3).toList) == (((rd_T41 x1 x5).f3).toList)))))) = true then (some false) else (colonnaderef02_Same.l0 k x0 x1 (wrap64 (x5 + 1)))) else (none)) else (none)) else (some true)
def colonnaderef02_Same.f (k : Nat) (l0 : List (S41)) (l1 : List (S41)) : Option (Bool) := if (l0.length : Int) = (l1.length : Int) then (colonnaderef02_Same.l0 k l0 l1 0) else (some false)
theorem colonnaderef02_Same.mono_l : ∀ k, (∀ y0 y1 y2, LeO (colonnaderef02_Same.l0 k y0 y1 y2) (colonnaderef02_Same.l0 (k + 1) y0 y1 y2))
  | 0 => fun _ _ _ r h => by simp [colonnaderef02_Same.l0] at h
  | k + 1 => by
    have ih0 := colonnaderef02_Same.mono_l k
    · intro y0 y1 y2
      unfold colonnaderef02_Same.l0
      repeat' first
      | (with_reducible exact ih0 _ _ _)
      | (with_reducible exact LeO.refl _)
      | (with_reducible exact LeO.none _)
      | (with_reducible refine LeO.ite ?_ ?_)
      | (with_reducible refine LeO.bind ?_ (fun _ => ?_))
      | exact ih0 _ _ _
      | exact LeO.none _
      | refine LeO.ite ?_ ?_
      | refine LeO.bind ?_ (fun _ => ?_)
theorem colonnaderef02_Same.mono : ∀ a0 a1 k, LeO (colonnaderef02_Same.f k a0 a1) (colonnaderef02_Same.f (k + 1) a0 a1) := by
  intro a0 a1 k
  have ih0 := colonnaderef02_Same.mono_l k
  unfold colonnaderef02_Same.f
  repeat' first
      | (with_reducible exact ih0 _ _ _)
      | (with_reducible exact LeO.refl _)
      | (with_reducible exact LeO.none _)
      | (with_reducible refine LeO.ite ?_ ?_)
      | (with_reducible refine LeO.bind ?_ (fun _ => ?_))
      | exact ih0 _ _ _
      | exact LeO.none _
      | refine LeO.ite ?_ ?_
      | refine LeO.bind ?_ (fun _ => ?_)
set_option maxHeartbeats 8000000 in
set_option maxRecDepth 100000 in
theorem colonnaderef02_Same.calls (k : Nat) (A0 : Option Addr) (c0 : Nat) (l0 : List (S41)) (A1 : Option Addr) (c1 : Nat) (l1 : List (S41)) (r : Bool) (w : World) (hr0 : Kd.C k41 w A0 l0.length l0) (hc0 : l0.length ≤ c0) (hr1 : Kd.C k41 w A1 l1.length l1) (hc1 : l1.length ≤ c1) (h : colonnaderef02_Same.f k l0 l1 = some r) :
    Calls Tryz.prog 13 #[.slice A0 l0.length c0, .slice A1 l1.length c1] w fun e w' => e = .returned (.bool r) ∧ Drawn0 w w' := by
  have hu41 := Tryz.underlying41
  have HR0 := Aside0.mk hr0
  have HC0 := Aside0.mk hc0
  clear hr0 hc0
  have HR1 := Aside0.mk hr1
  have HC1 := Aside0.mk hc1
  clear hr1 hc1
  have H : (if (l0.length : Int) = (l1.length : Int) then (colonnaderef02_Same.l0 k l0 l1 0) else (some false)) = some r := h
  clear h
  by_cases c3 : (l0.length : Int) = (l1.length : Int)
  · rw [if_pos c3] at H
    have c3b0 : ((l0.length : Int) == (l1.length : Int)) = true := beq_iff_eq.mpr c3
    have c3b1 : ((l0.length : Int) != (l1.length : Int)) = false := bne_eq_false_iff_eq.mpr c3
    have c3b2 : (l0.length == l1.length) = true := by first | simpa using c3 | (simp at c3 ⊢; omega)
    clear c3
    have H' := Aside0.mk H
    clear H
    go_enter Tryz.func13, Tryz.ntmps13
    go_wp2
    repeat (go_quiet (fail); try go_wp2)
    go_loopg [5] k (fun kq v5 w' => ∃ (x5_1 : Int), v5 = .int .i64 x5_1 ∧ Aside0 (colonnaderef02_Same.l0 kq l0 l1 x5_1 = some r) ∧ Aside0 (kq ≤ k) ∧ Drawn0 w w')
    case atStart => exact ⟨(0), (by first | rfl | (simp; done) | (simp [*]; done)), H', ⟨Nat.le_refl _⟩, by repeat (first | exact Drawn0.refl _ | apply Drawn0.step)⟩
    case round =>
      clear H'
      try clear c1
      try clear p2
      try clear c3
      try clear c3b0
      try clear c3b1
      try clear c3b2
      obtain ⟨x5_1, rfl, HA, HK1, ⟨m1, rfl⟩⟩ := hrel
      cases gk with
      | zero => exact absurd HA.out (by simp [colonnaderef02_Same.l0])
      | succ k1 =>
        have H := HA.out
        clear HA
        simp only [colonnaderef02_Same.l0] at H
        by_cases c4 : x5_1 < (l0.length : Int)
        · rw [if_pos c4] at H
          have c4b0 : decide (x5_1 < (l0.length : Int)) = true := decide_eq_true c4
          clear c4
          by_cases c5 : 0 ≤ x5_1
          · rw [if_pos c5] at H
            have c5b0 : decide (0 ≤ x5_1) = true := decide_eq_true c5
            clear c5
            by_cases c6 : x5_1 < (l1.length : Int)
            · rw [if_pos c6] at H
              have c6b0 : decide (x5_1 < (l1.length : Int)) = true := decide_eq_true c6
              clear c6
              by_cases c7 : ((!(((rd_T41 l0 x5_1).f0.f0) == ((rd_T41 l1 x5_1).f0.f0)) || (!(((rd_T41 l0 x5_1).f0.f1) == ((rd_T41 l1 x5_1).f0.f1)))) || (!(((rd_T41 l0 x5_1).f1) == ((rd_T41 l1 x5_1).f1)) || (!(((rd_T41 l0 x5_1).f2) == ((rd_T41 l1 x5_1).f2)) || (!((((rd_T41 l0 x5_1).f3).toList) == (((rd_T41 l1 x5_1).f3).toList)))))) = true
              · rw [if_pos c7] at H
                have c7b0 : ((!(((rd_T41 l0 x5_1).f0.f0) == ((rd_T41 l1 x5_1).f0.f0)) || (!(((rd_T41 l0 x5_1).f0.f1) == ((rd_T41 l1 x5_1).f0.f1)))) || (!(((rd_T41 l0 x5_1).f1) == ((rd_T41 l1 x5_1).f1)) || (!(((rd_T41 l0 x5_1).f2) == ((rd_T41 l1 x5_1).f2)) || (!((((rd_T41 l0 x5_1).f3).toList) == (((rd_T41 l1 x5_1).f3).toList)))))) = true := c7
                clear c7
                obtain rfl := Option.some.inj H
                have p211 : 0 ≤ (x5_1 : Int) := of_decide_eq_true (by first | (with_reducible assumption) | assumption)
                have q211 : x5_1 < (l0.length : Int) := of_decide_eq_true (by first | (with_reducible assumption) | assumption)
                obtain ⟨ad211, e211, hx211_0, hx211_1, hx211_2, hx211_3, hx211_4⟩ := at_T41 HR0.out x5_1 p211 q211
                cases e211
                replace p211 := eq_true p211
                replace q211 := eq_true q211
                have p212 : 0 ≤ (x5_1 : Int) := of_decide_eq_true (by first | (with_reducible assumption) | assumption)
                have q212 : x5_1 < (l1.length : Int) := of_decide_eq_true (by first | (with_reducible assumption) | assumption)
                obtain ⟨ad212, e212, hx212_0, hx212_1, hx212_2, hx212_3, hx212_4⟩ := at_T41 HR1.out x5_1 p212 q212
                cases e212
                replace p212 := eq_true p212
                replace q212 := eq_true q212
                go_wp2
                repeat (go_quiet (fail); try go_wp2)
                go_ret
                exact ⟨by first | rfl | (simp; done) | (simp [*]; done), by repeat (first | exact Drawn0.refl _ | apply Drawn0.step)⟩
              · rw [if_neg c7] at H
                have c7b0 : ((!(((rd_T41 l0 x5_1).f0.f0) == ((rd_T41 l1 x5_1).f0.f0)) || (!(((rd_T41 l0 x5_1).f0.f1) == ((rd_T41 l1 x5_1).f0.f1)))) || (!(((rd_T41 l0 x5_1).f1) == ((rd_T41 l1 x5_1).f1)) || (!(((rd_T41 l0 x5_1).f2) == ((rd_T41 l1 x5_1).f2)) || (!((((rd_T41 l0 x5_1).f3).toList) == (((rd_T41 l1 x5_1).f3).toList)))))) = false := by simpa using c7
                clear c7
                have H' := Aside0.mk H
                clear H
                have p211 : 0 ≤ (x5_1 : Int) := of_decide_eq_true (by first | (with_reducible assumption) | assumption)
                have q211 : x5_1 < (l0.length : Int) := of_decide_eq_true (by first | (with_reducible assumption) | assumption)
                obtain ⟨ad211, e211, hx211_0, hx211_1, hx211_2, hx211_3, hx211_4⟩ := at_T41 HR0.out x5_1 p211 q211
                cases e211
                replace p211 := eq_true p211
                replace q211 := eq_true q211
                have p212 : 0 ≤ (x5_1 : Int) := of_decide_eq_true (by first | (with_reducible assumption) | assumption)
                have q212 : x5_1 < (l1.length : Int) := of_decide_eq_true (by first | (with_reducible assumption) | assumption)
                obtain ⟨ad212, e212, hx212_0, hx212_1, hx212_2, hx212_3, hx212_4⟩ := at_T41 HR1.out x5_1 p212 q212
                cases e212
                replace p212 := eq_true p212
                replace q212 := eq_true q212
                go_wp2
                repeat (go_quiet (fail); try go_wp2)
                go_roundg k1
                case measure => have := HK1.out; omega
                case rel => exact ⟨(wrap64 (x5_1 + 1)), (by first | rfl | (simp; done) | (simp [*]; done)), H', ⟨by have := HK1.out; omega⟩, by repeat (first | exact Drawn0.refl _ | apply Drawn0.step)⟩
            · rw [if_neg c6] at H
              exact absurd H (by simp)
          · rw [if_neg c5] at H
            exact absurd H (by simp)
        · rw [if_neg c4] at H
          have c4b0 : decide (x5_1 < (l0.length : Int)) = false := decide_eq_false c4
          clear c4
          obtain rfl := Option.some.inj H
          go_wp2
          repeat (go_quiet (fail); try go_wp2)
          go_ret
          exact ⟨by first | rfl | (simp; done) | (simp [*]; done), by repeat (first | exact Drawn0.refl _ | apply Drawn0.step)⟩
  · rw [if_neg c3] at H
    have c3b0 : ((l0.length : Int) == (l1.length : Int)) = false := beq_eq_false_iff_ne.mpr c3
    have c3b1 : ((l0.length : Int) != (l1.length : Int)) = true := bne_iff_ne.mpr c3
    have c3b2 : (l0.length == l1.length) = false := by first | simpa using c3 | (simp at c3 ⊢; omega)
    obtain rfl := Option.some.inj H
    go_enter Tryz.func13, Tryz.ntmps13
    go_wp2
    repeat (go_quiet (fail); try go_wp2)
    go_ret
    exact ⟨by first | rfl | (simp; done) | (simp [*]; done), by repeat (first | exact Drawn0.refl _ | apply Drawn0.step)⟩

/-! ### strings_Trim: function 58, by hand -/
def strings_Trim.f (a0 : ByteArray) (a1 : ByteArray) : Option (ByteArray) := if a1.data.toList = ([97, 98, 99, 100, 101, 102, 103, 104, 105, 106, 107, 108, 109, 110, 111, 112, 113, 114, 115, 116, 117, 118, 119, 120, 121, 122, 48, 49, 50, 51, 52, 53, 54, 55, 56, 57, 95] : List UInt8) then (if a0.size ≤ 9223372036854775807 then some ⟨(Lib.trimS a0.data.toList ([97, 98, 99, 100, 101, 102, 103, 104, 105, 106, 107, 108, 109, 110, 111, 112, 113, 114, 115, 116, 117, 118, 119, 120, 121, 122, 48, 49, 50, 51, 52, 53, 54, 55, 56, 57, 95] : List UInt8)).toArray⟩ else none) else none
theorem strings_Trim.calls (a0 : ByteArray) (a1 : ByteArray) (r : ByteArray) (w : World) (h : strings_Trim.f a0 a1 = some r) :
    Calls Tryz.prog 58 #[.string a0, .string a1] w fun e w' => e = .returned (.string r) ∧ Below w.heap.size w w' := by
  unfold strings_Trim.f at h
  by_cases h1 : a1.data.toList = ([97, 98, 99, 100, 101, 102, 103, 104, 105, 106, 107, 108, 109, 110, 111, 112, 113, 114, 115, 116, 117, 118, 119, 120, 121, 122, 48, 49, 50, 51, 52, 53, 54, 55, 56, 57, 95] : List UInt8)
  · rw [if_pos h1] at h
    by_cases h2 : a0.size ≤ 9223372036854775807
    · rw [if_pos h2] at h
      obtain rfl := Option.some.inj h
      have e : a1 = ⟨#[97, 98, 99, 100, 101, 102, 103, 104, 105, 106, 107, 108, 109, 110, 111, 112, 113, 114, 115, 116, 117, 118, 119, 120, 121, 122, 48, 49, 50, 51, 52, 53, 54, 55, 56, 57, 95]⟩ := by
        have := Array.toList_inj.1 h1
        cases a1; subst this; rfl
      subst e
      exact Tryz.strings_Trim_name a0 w h2
    · rw [if_neg h2] at h; exact absurd h (by simp)
  · rw [if_neg h1] at h; exact absurd h (by simp)


/-! ### schema_Name: function 24, by hand -/
def schema_Name.inS (c : UInt8) : Bool := (decide (97 ≤ c.toNat) && decide (c.toNat ≤ 122)) || ((decide (48 ≤ c.toNat) && decide (c.toNat ≤ 57)) || decide (c.toNat = 95))
theorem schema_Name.inS_cut (c : UInt8) : ([97, 98, 99, 100, 101, 102, 103, 104, 105, 106, 107, 108, 109, 110, 111, 112, 113, 114, 115, 116, 117, 118, 119, 120, 121, 122, 48, 49, 50, 51, 52, 53, 54, 55, 56, 57, 95] : List UInt8).contains c = schema_Name.inS c := by
  have : ∀ n : Fin 256, ([97, 98, 99, 100, 101, 102, 103, 104, 105, 106, 107, 108, 109, 110, 111, 112, 113, 114, 115, 116, 117, 118, 119, 120, 121, 122, 48, 49, 50, 51, 52, 53, 54, 55, 56, 57, 95] : List UInt8).contains (UInt8.ofNat n.val) = schema_Name.inS (UInt8.ofNat n.val) := by decide +kernel
  have h := this ⟨c.toNat, UInt8.toNat_lt c⟩
  simpa using h
theorem schema_Name.dw_all (p : UInt8 → Bool) : ∀ l : List UInt8, l.dropWhile p = [] → ∀ c ∈ l, p c = true
  | [], _, c, hc => by cases hc
  | a :: l, h, c, hc => by
    by_cases g : p a = true
    · rw [List.dropWhile_cons, if_pos g] at h
      rcases List.mem_cons.1 hc with rfl | hc
      · exact g
      · exact schema_Name.dw_all p l h c hc
    · rw [List.dropWhile_cons, if_neg g] at h; cases h
theorem schema_Name.dw_nil (p : UInt8 → Bool) : ∀ l : List UInt8, (∀ c ∈ l, p c = true) → l.dropWhile p = []
  | [], _ => rfl
  | c :: l, h => by rw [List.dropWhile_cons, if_pos (h c (by simp))]; exact schema_Name.dw_nil p l fun x hx => h x (List.mem_cons_of_mem _ hx)
theorem schema_Name.dw_end (p : UInt8 → Bool) : ∀ l : List UInt8, l.dropWhile p = [] ∨ ∃ a r, l.dropWhile p = a :: r ∧ p a = false
  | [] => .inl rfl
  | c :: l => by
    by_cases g : p c = true
    · rw [List.dropWhile_cons, if_pos g]; exact schema_Name.dw_end p l
    · rw [List.dropWhile_cons, if_neg g]; exact .inr ⟨c, l, rfl, Bool.eq_false_iff.mpr g⟩
theorem schema_Name.trim_iff (l : List UInt8) : Lib.trimS l ([97, 98, 99, 100, 101, 102, 103, 104, 105, 106, 107, 108, 109, 110, 111, 112, 113, 114, 115, 116, 117, 118, 119, 120, 121, 122, 48, 49, 50, 51, 52, 53, 54, 55, 56, 57, 95] : List UInt8) = [] ↔ l.all schema_Name.inS = true := by
  have hp : (([97, 98, 99, 100, 101, 102, 103, 104, 105, 106, 107, 108, 109, 110, 111, 112, 113, 114, 115, 116, 117, 118, 119, 120, 121, 122, 48, 49, 50, 51, 52, 53, 54, 55, 56, 57, 95] : List UInt8).contains ·) = schema_Name.inS := by funext c; exact schema_Name.inS_cut c
  unfold Lib.trimS Lib.trimRightS Lib.trimLeftS
  rw [hp]
  constructor
  · intro h
    rw [List.all_eq_true]
    rcases schema_Name.dw_end schema_Name.inS l.reverse with e | ⟨a, r, e, ha⟩
    · exact fun c hc => schema_Name.dw_all _ _ e c (List.mem_reverse.2 hc)
    · rw [e] at h
      have h2 := schema_Name.dw_all _ _ h a (by simp)
      rw [ha] at h2; cases h2
  · intro h
    rw [List.all_eq_true] at h
    rw [schema_Name.dw_nil schema_Name.inS l.reverse fun c hc => h c (List.mem_reverse.1 hc)]
    rfl
structure schema_Name.BL (W : World) (N : Nat) (l : List UInt8) : Prop where
  at_ : ∀ j (hj : j < l.length), W.cell? ⟨N, j, none⟩ = some (.int .u8 (l[j].toNat : Int))
theorem schema_Name.BL.of_new (w : World) (s : ByteArray) (cap : Nat) (e : TypeId) : schema_Name.BL (w.alloc (.cells (bytesRow s cap) e ((bytesRow s cap).size, (bytesRow s cap).size + 1))) w.heap.size s.data.toList := by
  have hl : s.data.toList.length = s.data.size := Array.length_toList
  refine ⟨fun j hj => ?_⟩
  rw [World.cell?_alloc_mark, bytesRow_at s cap j (by omega)]
  simp
def schema_Name.f (a0 : ByteArray) : Option (Int) := some (if a0.size = 0 then 110 else if 32 < a0.size then 110 else if 48 ≤ bt a0 0 ∧ bt a0 0 ≤ 57 then 110 else if a0.data.toList.all schema_Name.inS = true then 0 else 110)
set_option maxHeartbeats 8000000 in
set_option maxRecDepth 100000 in
theorem schema_Name.calls (a0 : ByteArray) (r : Int) (w : World) (h : schema_Name.f a0 = some r) :
    Calls Tryz.prog 24 #[.string a0] w fun e w' => e = .returned (.int .i64 r) ∧ Below w.heap.size w w' := by
  have hL : a0.data.toList.length = a0.size := Array.length_toList
  have hS : a0.toList = a0.data.toList := Go.Proofs.YtmeopdjdjmjngaaGreatDoor.Str.toList_eq a0
  unfold schema_Name.f at h
  have h := Option.some.inj h
  by_cases c1 : a0.size = 0
  · rw [if_pos c1] at h
    subst h
    have e0 : a0.toList = [] := by rw [hS]; exact List.eq_nil_of_length_eq_zero (by omega)
    clear c1 hS hL
    have e1 : (a0.toList == ([] : List UInt8)) = true := by rw [e0]; rfl
    have e2 : a0.toList.isEmpty = true := by rw [e0]; rfl
    go_enter Tryz.func24, Tryz.ntmps24
    go_wp2
    go_ret
    exact ⟨rfl, Below.refl _ _⟩
  rw [if_neg c1] at h
  have n0 : ¬ a0.toList = [] := by rw [hS]; intro z; rw [z] at hL; simp at hL; omega
  have e1 : (a0.toList == ([] : List UInt8)) = false := beq_eq_false_iff_ne.mpr n0
  have e2 : a0.toList.isEmpty = false := by cases ht : a0.toList with | nil => exact absurd ht n0 | cons _ _ => rfl
  by_cases c2 : 32 < a0.size
  · rw [if_pos c2] at h
    subst h
    have g1 : decide ((32 : Int) < (a0.size : Int)) = true := decide_eq_true (by omega)
    have g2 : decide (32 < a0.size) = true := decide_eq_true c2
    clear c1 c2 hS hL n0
    go_enter Tryz.func24, Tryz.ntmps24
    go_wp2
    go_ret
    exact ⟨rfl, Below.refl _ _⟩
  rw [if_neg c2] at h
  have g1 : decide ((32 : Int) < (a0.size : Int)) = false := decide_eq_false (by omega)
  have g2 : decide (32 < a0.size) = false := decide_eq_false c2
  have hb : ∀ z : 0 < a0.size, (((a0[0]'z).toNat : Nat) : Int) = bt a0 0 := fun z => bt_at a0 0 z
  have p0 : ((0 : Int) < (a0.size : Int)) = True := eq_true (by omega)
  have p1 : (0 < a0.size) = True := eq_true (by omega)
  by_cases c3 : 48 ≤ bt a0 0 ∧ bt a0 0 ≤ 57
  · rw [if_pos c3] at h
    subst h
    have g3 : decide (48 ≤ bt a0 0) = true := decide_eq_true c3.1
    have g4 : decide (bt a0 0 ≤ 57) = true := decide_eq_true c3.2
    clear c1 c2 c3 hS hL n0
    go_enter Tryz.func24, Tryz.ntmps24
    go_wp2
    go_ret
    exact ⟨rfl, Below.refl _ _⟩
  rw [if_neg c3] at h
  have AT : Aside0 (strings_Trim.f a0 (⟨#[97, 98, 99, 100, 101, 102, 103, 104, 105, 106, 107, 108, 109, 110, 111, 112, 113, 114, 115, 116, 117, 118, 119, 120, 121, 122, 48, 49, 50, 51, 52, 53, 54, 55, 56, 57, 95]⟩ : ByteArray) = some ⟨(Lib.trimS a0.data.toList ([97, 98, 99, 100, 101, 102, 103, 104, 105, 106, 107, 108, 109, 110, 111, 112, 113, 114, 115, 116, 117, 118, 119, 120, 121, 122, 48, 49, 50, 51, 52, 53, 54, 55, 56, 57, 95] : List UInt8)).toArray⟩) := ⟨by
    unfold strings_Trim.f
    rw [if_pos rfl, if_pos (by omega)]⟩
  have HC3 := Aside0.mk c3
  clear c3
  by_cases c4 : a0.data.toList.all schema_Name.inS = true
  · rw [if_pos c4] at h
    subst h
    have e := (schema_Name.trim_iff a0.data.toList).2 c4
    rw [e] at AT
    have h4 := Aside0.mk (List.all_eq_true.1 c4)
    have hN := Aside0.mk hL
    have hsz := Aside0.mk (show a0.size ≤ 32 by omega)
    clear c1 c2 c4 e hS hL n0
    by_cases d : 48 ≤ bt a0 0
    all_goals (first
      | (have g3 : decide (48 ≤ bt a0 0) = true := decide_eq_true d
         have g4 : decide (bt a0 0 ≤ 57) = false := decide_eq_false fun z => HC3.out ⟨d, z⟩
         clear d HC3)
      | (have g3 : decide (48 ≤ bt a0 0) = false := decide_eq_false d
         clear d HC3))
    all_goals
      have kc := fun (W : World) => run_bytes_of_string (P := Tryz.prog) W 9 62 5 a0 Tryz.underlying9 Tryz.underlying62 Tryz.underlying5
      go_enter Tryz.func24, Tryz.ntmps24
      go_wp2_with ((go_at_call 58; refine (strings_Trim.calls a0 _ _ _ AT.out).mono ?_; rintro e w1 ⟨rfl, hb⟩; have HB := Aside0.mk hb; clear hb); have B0 := Aside0.mk (schema_Name.BL.of_new w1.drew a0 (grownCap w1 a0.size 0 5) 5))
      have G1 := HB
      clear HB
      have G0 : Aside0 (Below w.heap.size w (w1.drew.alloc (.cells (bytesRow a0 (grownCap w1 a0.size 0 5)) 5 ((bytesRow a0 (grownCap w1 a0.size 0 5)).size, (bytesRow a0 (grownCap w1 a0.size 0 5)).size + 1)))) := ⟨by apply below_alloc; apply below_drew1; exact G1.out⟩
      go_loopg [30] (a0.size + 1) (fun kq v30 w' => ∃ (i : Nat), v30 = .int .i64 (i : Int) ∧ Aside0 (i + kq = a0.size + 1) ∧ Aside0 (i ≤ a0.size) ∧ Aside0 (schema_Name.BL w' w1.heap.size a0.data.toList) ∧ Aside0 (Below w.heap.size w w'))
      case atStart => exact ⟨0, rfl, ⟨by omega⟩, ⟨by omega⟩, B0, G0⟩
      case round =>
        clear B0 G0 G1
        obtain ⟨i, rfl, HI, HJ, HL, HW⟩ := hrel
        cases gk with
        | zero => exact absurd HI.out (by have := HJ.out; omega)
        | succ k1 =>
          by_cases c : i < a0.size
          · have hi : i < a0.data.toList.length := by have := hN.out; omega
            have c0 : decide ((i : Int) < (a0.size : Int)) = true := decide_eq_true (by omega)
            have p4 : (0 ≤ (i : Int)) = True := eq_true (by omega)
            have q4 : ((i : Int) < (a0.size : Int)) = True := eq_true (by omega)
            have q5 : (i < a0.size) = True := eq_true c
            have hc := HL.out.at_ i hi
            have hin := h4.out _ (List.getElem_mem hi)
            have hw : wrap64 ((i : Int) + 1) = ((i + 1 : Nat) : Int) := by have := hsz.out; unfold wrap64; omega
            generalize a0.data.toList[i] = ch at hc hin
            unfold schema_Name.inS at hin
            by_cases k1_ : 97 ≤ ch.toNat
            · have hin2 : ch.toNat ≤ 122 := by
                simp only [Bool.or_eq_true, Bool.and_eq_true, decide_eq_true_eq] at hin
                omega
              have t1 : decide ((ch.toNat : Int) < 97) = false := decide_eq_false (by omega)
              have t2 : decide ((122 : Int) < (ch.toNat : Int)) = false := decide_eq_false (by omega)
              clear hin hin2 k1_
              go_wp2
              go_roundg k1
              case measure => have := HI.out; have := HJ.out; omega
              case rel => exact ⟨i + 1, by first | (rw [hw]) | rfl | (simp; done) | (simp [*]; done), ⟨by have := HI.out; omega⟩, ⟨by omega⟩, ⟨⟨HL.out.at_⟩⟩, ⟨by repeat (first | exact HW.out | apply below_drew1 | apply pw_below_drewN)⟩⟩
            · by_cases k2_ : ch.toNat = 95
              · have t1 : (ch.toNat : Int) = 95 := by omega
                rw [t1] at hc
                clear hin k1_ k2_ t1
                go_wp2
                go_roundg k1
                case measure => have := HI.out; have := HJ.out; omega
                case rel => exact ⟨i + 1, by first | (rw [hw]) | rfl | (simp; done) | (simp [*]; done), ⟨by have := HI.out; omega⟩, ⟨by omega⟩, ⟨⟨HL.out.at_⟩⟩, ⟨by repeat (first | exact HW.out | apply below_drew1 | apply pw_below_drewN)⟩⟩
              · have hin2 : 48 ≤ ch.toNat ∧ ch.toNat ≤ 57 := by
                  simp only [Bool.or_eq_true, Bool.and_eq_true, decide_eq_true_eq] at hin
                  omega
                have t1 : decide ((ch.toNat : Int) < 97) = true := decide_eq_true (by omega)
                have t2 : decide ((ch.toNat : Int) < 48) = false := decide_eq_false (by omega)
                have t3 : decide ((57 : Int) < (ch.toNat : Int)) = false := decide_eq_false (by omega)
                clear hin hin2 k1_ k2_
                go_wp2
                go_roundg k1
                case measure => have := HI.out; have := HJ.out; omega
                case rel => exact ⟨i + 1, by first | (rw [hw]) | rfl | (simp; done) | (simp [*]; done), ⟨by have := HI.out; omega⟩, ⟨by omega⟩, ⟨⟨HL.out.at_⟩⟩, ⟨by repeat (first | exact HW.out | apply below_drew1 | apply pw_below_drewN)⟩⟩
          · have c0 : decide ((i : Int) < (a0.size : Int)) = false := decide_eq_false (by omega)
            go_wp2
            go_ret
            exact ⟨rfl, by repeat (first | exact HW.out | apply below_drew1 | apply pw_below_drewN)⟩
  · rw [if_neg c4] at h
    subst h
    have e : ¬ Lib.trimS a0.data.toList ([97, 98, 99, 100, 101, 102, 103, 104, 105, 106, 107, 108, 109, 110, 111, 112, 113, 114, 115, 116, 117, 118, 119, 120, 121, 122, 48, 49, 50, 51, 52, 53, 54, 55, 56, 57, 95] : List UInt8) = [] := fun z => c4 ((schema_Name.trim_iff _).1 z)
    generalize Lib.trimS a0.data.toList ([97, 98, 99, 100, 101, 102, 103, 104, 105, 106, 107, 108, 109, 110, 111, 112, 113, 114, 115, 116, 117, 118, 119, 120, 121, 122, 48, 49, 50, 51, 52, 53, 54, 55, 56, 57, 95] : List UInt8) = tr at AT e
    have f0 : (⟨tr.toArray⟩ : ByteArray).toList = tr := by rw [Go.Proofs.YtmeopdjdjmjngaaGreatDoor.Str.toList_eq]
    have f1 : ((⟨tr.toArray⟩ : ByteArray).toList == ([] : List UInt8)) = false := by rw [f0]; exact beq_eq_false_iff_ne.mpr e
    have f2 : (⟨tr.toArray⟩ : ByteArray).toList.isEmpty = false := by rw [f0]; cases tr with | nil => exact absurd rfl e | cons _ _ => rfl
    have f4 : tr.isEmpty = false := by cases tr with | nil => exact absurd rfl e | cons _ _ => rfl
    have f3 : ((⟨tr.toArray⟩ : ByteArray).toList != ([] : List UInt8)) = true := by rw [f0]; exact bne_iff_ne.mpr e
    clear f0 e c1 c2 c4 hS hL n0
    by_cases d : 48 ≤ bt a0 0
    · have g3 : decide (48 ≤ bt a0 0) = true := decide_eq_true d
      have g4 : decide (bt a0 0 ≤ 57) = false := decide_eq_false fun z => HC3.out ⟨d, z⟩
      clear d HC3
      go_enter Tryz.func24, Tryz.ntmps24
      go_wp2_with (go_at_call 58; refine (strings_Trim.calls a0 _ _ _ AT.out).mono ?_; rintro e w1 ⟨rfl, hb⟩; have HB := Aside0.mk hb; clear hb)
      go_ret
      exact ⟨rfl, HB.out⟩
    · have g3 : decide (48 ≤ bt a0 0) = false := decide_eq_false d
      clear d HC3
      go_enter Tryz.func24, Tryz.ntmps24
      go_wp2_with (go_at_call 58; refine (strings_Trim.calls a0 _ _ _ AT.out).mono ?_; rintro e w1 ⟨rfl, hb⟩; have HB := Aside0.mk hb; clear hb)
      go_ret
      exact ⟨rfl, HB.out⟩


/-! ### schema_Check: function 18, by hand -/
def schema_Check.cs (x : S36) : List Value := [.string x.f0, .int .i64 x.f1.f0, .int .i64 x.f1.f1, .bool x.f2]
theorem schema_Check.getBang (i : Inhabited S36) (l : List S36) (j : Nat) (h : j < l.length) (z : S36) : @getElem! (List S36) Nat S36 _ _ i l j = l.getD j z := by
  rw [List.getElem!_eq_getElem?_getD, List.getD_eq_getElem?_getD, List.getElem?_eq_getElem h]
  rfl
theorem schema_Check.plain {w : World} {b o : Nat} {sp : Option Nat} {v : Value} (h : w.cell? ⟨b, o, sp⟩ = some v) : sp = none ∧ b < w.heap.size := by
  unfold World.cell? at h
  cases ho : w.heap[b]? with
  | none => simp [ho] at h
  | some ob =>
    refine ⟨?_, (Array.getElem?_eq_some_iff.1 ho).1⟩
    cases ob <;> simp [ho] at h
    cases sp with
    | none => rfl
    | some q => simp at h
theorem schema_Check.spread {w : World} {A : Option Addr} {l : List S36} (h : Kd.C k36 w A l.length l) (hl : 0 < l.length) : ∃ b off, A = some ⟨b, off, none⟩ ∧ b < w.heap.size ∧ ∀ j, j < l.length → ∀ i v, (schema_Check.cs (l.getD j z36))[i]? = some v → w.cell? ⟨b, off + j * 4 + i, none⟩ = some v := by
  obtain ⟨ad, e0, h0, _⟩ := at_T36 h 0 (by omega) (by omega)
  obtain ⟨b, off, sp⟩ := ad
  obtain ⟨rfl, hb⟩ := schema_Check.plain h0
  refine ⟨b, off, e0, hb, fun j hj i v hi => ?_⟩
  obtain ⟨ad, e1, h1, h2, h3, h4⟩ := at_T36 h (j : Int) (by omega) (by omega)
  obtain rfl := Option.some.inj (e0.symm.trans e1)
  unfold rd_T36 at h1 h2 h3 h4
  rw [show ((j : Int).toNat) = j from rfl] at h1 h2 h3 h4
  rw [show (⟨b, off, none⟩ : Addr).add (j * 4) = ⟨b, off + j * 4, none⟩ from by unfold Addr.add; first | rfl | (simp; done) | (split <;> simp_all)] at h1 h2 h3 h4
  unfold schema_Check.cs at hi
  match i, hi with
  | 0, hi => rw [← Option.some.inj hi]; exact h1
  | 1, hi => rw [← Option.some.inj hi]; exact h2
  | 2, hi => rw [← Option.some.inj hi]; exact h3
  | 3, hi => rw [← Option.some.inj hi]; exact h4
  | i + 4, hi => simp at hi
set_option maxHeartbeats 4000000 in
theorem schema_Check.idx0 (g : Nat) (lb : Array Value) (A : Option Addr) (c : Nat) (w : World) :
    Calls Tryz.prog 56 #[.slice A 0 c, .func (.func g) #[] lb] w fun e w' => e = .returned (.int .i64 (-1)) ∧ Below w.heap.size w w' := by
  have hb := Aside0.mk (Below.refl w.heap.size w)
  go_enter Tryz.func56, Tryz.ntmps56
  go_wp2
  go_loopg [8] 1 (fun kq v w' => v = .int .i64 0 ∧ Aside0 (Below w.heap.size w w'))
  case atStart => exact ⟨rfl, hb⟩
  case round =>
    obtain ⟨rfl, HB⟩ := hrel
    go_wp2
    go_ret
    exact ⟨rfl, HB.out⟩
theorem schema_Check.idx (g : Nat) (lb : Array Value) (eg : ∀ args w, (callFunc g args).run Tryz.prog w = .ok (.enter g args) w) (p : S36 → Bool) (A : Option Addr) (c : Nat) (l : List S36) (w : World) (hr : Kd.C k36 w A l.length l) (hbig : l.length ≤ 9223372036854775807)
    (hp : ∀ (W : World) (x : S36), Below w.heap.size w W → Calls Tryz.prog g (#[.agg (schema_Check.cs x).toArray] ++ lb) W fun e w' => e = .returned (.bool (p x)) ∧ Below w.heap.size w w') :
    Calls Tryz.prog 56 #[.slice A l.length c, .func (.func g) #[] lb] w fun e w' => e = .returned (.int .i64 (Lib.idxBy (fun _ y => p y) l z36)) ∧ Below w.heap.size w w' := by
  by_cases hl : 0 < l.length
  · obtain ⟨b, off, rfl, hb, hc⟩ := schema_Check.spread hr hl
    have := @AnyQ.slices_IndexFunc Tryz.prog Tryz.laysQ56_ren S36 ⟨z36⟩ Tryz.laysQ56 4 Tryz.isAgg36 Tryz.sizeOf36 schema_Check.cs (fun _ => rfl) p g lb eg b off l.length c l w hp (Nat.le_refl _) hbig hb (fun j hj i v hi => hc j hj i v (by rw [schema_Check.getBang ⟨z36⟩ l j hj z36] at hi; exact hi))
    rw [List.take_length] at this
    exact this
  · obtain rfl := List.eq_nil_of_length_eq_zero (show l.length = 0 by omega)
    exact schema_Check.idx0 g lb A c w
def schema_Check.nm (s : ByteArray) : Int := (schema_Name.f s).getD 0
theorem schema_Check.nm_is (s : ByteArray) : schema_Name.f s = some (schema_Check.nm s) := rfl
theorem schema_Check.nm_size (s : ByteArray) (h : schema_Check.nm s = 0) : s.size ≤ 32 := by
  unfold schema_Check.nm schema_Name.f at h
  rw [Option.getD_some] at h
  by_cases c : s.size = 0
  · omega
  · rw [if_neg c] at h
    by_cases d : 32 < s.size
    · rw [if_pos d] at h; exact absurd h (by decide)
    · omega
set_option maxHeartbeats 4000000 in
theorem schema_Check.lit (w W : World) (x : S36) (hb : Below w.heap.size w W) :
    Calls Tryz.prog 51 (#[.agg (schema_Check.cs x).toArray] ++ #[]) W fun e w' => e = .returned (.bool (schema_Check.nm x.f0 != 0)) ∧ Below w.heap.size w w' := by
  have HB := Aside0.mk hb
  clear hb
  show Calls Tryz.prog 51 #[.agg #[.string x.f0, .int .i64 x.f1.f0, .int .i64 x.f1.f1, .bool x.f2]] W _
  have AT := Aside0.mk (schema_Check.nm_is x.f0)
  generalize schema_Check.nm x.f0 = v at AT ⊢
  go_enter Tryz.func51, Tryz.ntmps51
  go_wp2_with (go_at_call 24; refine (schema_Name.calls x.f0 v _ AT.out).mono ?_; rintro e w1 ⟨rfl, hb⟩; have HB1 := Aside0.mk (below_step (below_alloc HB.out _) hb); clear hb)
  go_ret
  exact ⟨rfl, HB1.out⟩
set_option maxHeartbeats 4000000 in
theorem schema_Check.cont (A : Option Addr) (c : Nat) (l : List S36) (w : World) (hr : Kd.C k36 w A l.length l) (hbig : l.length ≤ 9223372036854775807) :
    Calls Tryz.prog 50 #[.slice A l.length c, .func (.func 51) #[] #[]] w fun e w' => e = .returned (.bool (l.any fun x => schema_Check.nm x.f0 != 0)) ∧ Below w.heap.size w w' := by
  have eg : ∀ args w, (callFunc 51 args).run Tryz.prog w = .ok (.enter 51 args) w := enters_of Tryz.func51 (by kernel_rfl) rfl
  have h := Aside0.mk (schema_Check.idx 51 #[] eg (fun x => schema_Check.nm x.f0 != 0) A c l w hr hbig (fun W x hb => schema_Check.lit w W x hb))
  have e := Lib.idxBy_nonneg_iff (fun (_ : S36) (y : S36) => schema_Check.nm y.f0 != 0) l z36
  generalize Lib.idxBy (fun (_ : S36) (y : S36) => schema_Check.nm y.f0 != 0) l z36 = i at h e
  rw [← e]
  clear e eg hr hbig
  go_enter Tryz.func50, Tryz.ntmps50
  go_wp2_with (go_at_call 56; refine h.out.mono ?_; rintro e w1 ⟨rfl, hb⟩; have HB1 := Aside0.mk hb; clear hb)
  go_ret
  exact ⟨rfl, HB1.out⟩
section
open Go.Maps
theorem schema_Check.look_bool {H : Type} {P : Program} (w : World) {ops : Array Oper} {rest : List Oper} {o : Oper} {a : Act} {Q : Exit → Act → World → Prop}
    (hg : o.guard = none) (m x : Operand) (t : TypeId) (hop : o.op = Op.lookup t m x false)
    (k e : TypeId) (K : Keyed P k) (ht : P.underlying t = some (.map k e)) (he : P.underlying e = some .bool) (hz : (zeroValue e).run P w = .ok (.bool false) w) (b n : Nat) (D : DataW H)
    (hm : a.eval m = .map (some b)) (hown : w.ownsMap P k (plainElem P e) b n D) (key : Value) (kl : Lit) (hx : a.eval x = key) (hkey : keyOf P k key = some kl) (bb : Bool) (hat : D.atKey kl (.lit (.bool false)) = .lit (.bool bb))
    (hK : wpList P ops Q rest (a.put o.dst (.bool bb)) w) : wpList P ops Q (o :: rest) a w := by
  refine wpList_plain hg fun K' hK' => ?_
  obtain ⟨v, ps, hrun, hv⟩ := hown.lookup K ht hz (plainElem_bool he false) hkey
  have : v = .bool bb := by
    unfold plainElem at hv
    rw [he, hat] at hv
    cases v <;> simp at hv
    rw [hv.1]
  subst this
  unfold Oper.wp
  simp [execOp, hop, hm, hx, hrun, Result.andThen]
  first | exact hK' _ _ hK | exact hK
theorem schema_Check.own_below {H : Type} {P : Program} {k : TypeId} {R : Value → Option (DataW H × List MemPlace)} {w w1 : World} {b n : Nat} {D : DataW H} (h : w.ownsMap P k R b n D) (hb : Below w.heap.size w w1) : w1.ownsMap P k R b n D := by
  obtain ⟨es, clock, hbk, F, hs, hD⟩ := h
  exact ⟨es, clock, blk_below hbk hb, F, hs, hD⟩
theorem schema_Check.cell_on {X w9 : World} {a : Addr} {v : Value} (hx : X.cell? a = some v) (hb : Below X.heap.size X w9) : w9.cell? a = some v := (hb.cell (World.block_lt_of_cell? X _ hx)).trans hx
theorem schema_Check.cell0 {w8 w9 : World} {g : Nat} {a b c d u : Value} (h0 : w8.cell? ⟨g, 0, none⟩ = some u) (hb : Below ((((w8.setCell ⟨g, 0, none⟩ a).setCell ⟨g, 1, none⟩ b).setCell ⟨g, 2, none⟩ c).setCell ⟨g, 3, none⟩ d).heap.size ((((w8.setCell ⟨g, 0, none⟩ a).setCell ⟨g, 1, none⟩ b).setCell ⟨g, 2, none⟩ c).setCell ⟨g, 3, none⟩ d) w9) : w9.cell? ⟨g, 0, none⟩ = some a := by
  refine schema_Check.cell_on ?_ hb
  rw [World.cell?_setCell_other _ _ _ _ (by intro z; exact absurd (Addr.mk.inj z).2.1 (by decide)), World.cell?_setCell_other _ _ _ _ (by intro z; exact absurd (Addr.mk.inj z).2.1 (by decide)), World.cell?_setCell_other _ _ _ _ (by intro z; exact absurd (Addr.mk.inj z).2.1 (by decide))]
  exact World.cell?_setCell_same _ _ _ h0
theorem schema_Check.own_set {H : Type} {P : Program} {k : TypeId} {R : Value → Option (DataW H × List MemPlace)} {w : World} {b n : Nat} {D : DataW H} (h : w.ownsMap P k R b n D) {g j : Nat} (hne : b ≠ g) (v : Value) : (w.setCell ⟨g, j, none⟩ v).ownsMap P k R b n D := h.setCell (a := ⟨g, j, none⟩) hne v
/-- the datum of the map while the columns of 'seen' are in it -/
structure schema_Check.Reads (D : DataW Unit) (seen : List (List UInt8)) : Prop where
  isMap : IsMap D
  at_ : ∀ s : List UInt8, D.atKey (.string s) (.lit (.bool false)) = .lit (.bool (seen.any (· == s)))
theorem schema_Check.Reads.nil : schema_Check.Reads (.map []) [] := ⟨⟨_, rfl⟩, fun s => rfl⟩
theorem schema_Check.Reads.put {D : DataW Unit} {seen : List (List UInt8)} (h : schema_Check.Reads D seen) (s : List UInt8) (hm : IsMap (D.put (.string s) (.lit (.bool true)))) : schema_Check.Reads (D.put (.string s) (.lit (.bool true))) (s :: seen) := by
  refine ⟨hm, fun s' => ?_⟩
  by_cases e : s = s'
  · subst e
    rw [atKey_put_same h.isMap (by trivial)]
    simp
  · rw [atKey_put_other (by intro z; exact e (Lit.string.inj z).symm), h.at_]
    have : (s == s') = false := beq_eq_false_iff_ne.mpr e
    simp [this]
end
def schema_Check.lp : List S36 → List (List UInt8) → Option Int
  | [], _ => some 0
  | c :: r, seen => if seen.any (· == c.f0.data.toList) = true then some 111 else (value_CheckType.f c.f1.f0 c.f1.f1).bind fun t => if t = 0 then schema_Check.lp r (c.f0.data.toList :: seen) else some 111
def schema_Check.f (a0_0 : ByteArray) (l0_1 : List (S36)) : Option (Int) :=
  if l0_1.length ≤ 4611686018427387904 then (if schema_Check.nm a0_0 = 0 then (if (l0_1.any fun x => schema_Check.nm x.f0 != 0) = true then some 110 else (schema_Check.lp l0_1 []).bind fun t => some (if t = 0 then (if l0_1.length = 0 ∨ 32 < l0_1.length then 111 else 0) else t)) else some 110) else none
set_option maxHeartbeats 8000000 in
set_option maxRecDepth 100000 in
theorem schema_Check.calls (a0_0 : ByteArray) (A0_1 : Option Addr) (c0_1 : Nat) (l0_1 : List (S36)) (r : Int) (w : World) (hr0_1 : Kd.C k36 w A0_1 l0_1.length l0_1) (hc0_1 : l0_1.length ≤ c0_1) (h : schema_Check.f a0_0 l0_1 = some r) :
    Calls Tryz.prog 18 #[.agg #[.string a0_0, .slice A0_1 l0_1.length c0_1]] w fun e w' => e = .returned (.int .i64 r) ∧ Below w.heap.size w w' := by
  have hu24 := Tryz.underlying24
  have hu36 := Tryz.underlying36
  unfold schema_Check.f at h
  rcases Nat.lt_or_ge 4611686018427387904 l0_1.length with hbig | hbig
  · rw [if_neg (Nat.not_le.2 hbig)] at h; exact absurd h (by simp)
  rw [if_pos hbig] at h
  clear hc0_1
  have HR := Aside0.mk hr0_1
  have HBIG := Aside0.mk hbig
  have AT := Aside0.mk (schema_Check.nm_is a0_0)
  have HC := fun (W : World) (hW : Below w.heap.size w W) => schema_Check.cont A0_1 c0_1 l0_1 W (Kd.C_below hr0_1 hW) (Nat.le_trans hbig (by decide))
  clear hr0_1 hbig
  rcases Decidable.em (¬ schema_Check.nm a0_0 = 0) with hn | hn
  · rw [if_neg hn] at h
    obtain rfl := Option.some.inj h
    clear h HC HR HBIG
    generalize schema_Check.nm a0_0 = v at AT hn
    have c1 : (v != 0) = true := bne_iff_ne.mpr hn
    have c2 : (v == 0) = false := beq_eq_false_iff_ne.mpr hn
    clear hn
    go_enter Tryz.func18, Tryz.ntmps18
    go_wp2_with (go_at_call 24; refine (schema_Name.calls a0_0 v _ AT.out).mono ?_; rintro e w1 ⟨rfl, hb⟩; have HB1 := Aside0.mk (below_step (below_alloc (Below.refl _ _) _) hb); clear hb)
    go_ret
    exact ⟨rfl, HB1.out⟩
  have hn := Decidable.not_not.1 hn
  rw [if_pos hn] at h
  rw [hn] at AT
  clear hn
  by_cases ha : (l0_1.any fun x => schema_Check.nm x.f0 != 0) = true
  · rw [if_pos ha] at h
    rw [ha] at HC
    obtain rfl := Option.some.inj h
    clear h ha HR HBIG
    have HC := Aside0.mk HC
    go_enter Tryz.func18, Tryz.ntmps18
    go_wp2_with (first
      | (go_at_call 24; refine (schema_Name.calls a0_0 0 _ AT.out).mono ?_; rintro e w1 ⟨rfl, hb⟩; have hA1 := blk_below (blk_new w (.cells #[.string a0_0, .slice A0_1 l0_1.length c0_1] 24)) hb; have hA2 := (blk_cell hA1 1).trans rfl; have HB1 := Aside0.mk (below_step (below_alloc (Below.refl _ _) _) hb); clear hb)
      | (go_at_call 50; refine (HC.out _ HB1.out).mono ?_; rintro e w2 ⟨rfl, hb⟩; have HB2 := Aside0.mk (below_step HB1.out hb); clear hb))
    go_ret
    exact ⟨rfl, HB2.out⟩
  rw [if_neg ha] at h
  have ha' : (l0_1.any fun x => schema_Check.nm x.f0 != 0) = false := by simpa using ha
  have HN : ∀ j : Nat, j < l0_1.length → (rd_T36 l0_1 (j : Int)).f0.size ≤ 32 := fun j hj => by
    refine schema_Check.nm_size _ ?_
    have := (List.any_eq_false.1 ha') (rd_T36 l0_1 (j : Int)) (by unfold rd_T36; rw [show ((j : Int).toNat) = j from rfl, List.getD_eq_getElem?_getD, List.getElem?_eq_getElem hj]; exact List.getElem_mem hj)
    simpa using this
  have HN := Aside0.mk HN
  clear ha
  rw [ha'] at HC
  clear ha'
  obtain ⟨t, hl, hre⟩ := Option.bind_eq_some_iff.1 h
  clear h
  have HRE := Aside0.mk (Option.some.inj hre)
  clear hre
  have HL := Aside0.mk hl
  clear hl
  have HC := Aside0.mk HC
  have hmm := @run_makeMap Tryz.prog
  go_enter Tryz.func18, Tryz.ntmps18
  go_wp2_with (first
      | (go_at_call 24; refine (schema_Name.calls a0_0 0 _ AT.out).mono ?_; rintro e w1 ⟨rfl, hb⟩; have hA1 := blk_below (blk_new w (.cells #[.string a0_0, .slice A0_1 l0_1.length c0_1] 24)) hb; have hA2 := (blk_cell hA1 1).trans rfl; have HB1 := Aside0.mk (below_step (below_alloc (Below.refl _ _) _) hb); clear hb)
      | (go_at_call 50; refine (HC.out _ HB1.out).mono ?_; rintro e w2 ⟨rfl, hb⟩; have hD1 := Aside0.mk (blk_below hA1 hb); have HB2 := Aside0.mk (below_step HB1.out hb); have hD2 : (w2.alloc (.map #[] 0)).cell? ⟨w.heap.size, 1, none⟩ = some (.slice A0_1 l0_1.length c0_1) := (blk_cell (blk_alloc hD1.out _) 1).trans rfl; clear hb))
  have HS2 := Aside0.mk HB2.out.size
  have NE2 := Aside0.mk (Nat.ne_of_lt (blk_lt hD1.out))
  clear AT HC hA1 hA2 HB1 hmm hD2
  go_loopg [19] (l0_1.length + 1) (fun kq v19 w' => ∃ (i : Nat) (seen : List (List UInt8)) (D : DataW Unit), v19 = .int .i64 (i : Int) ∧ Aside0 (i + kq = l0_1.length + 1) ∧ Aside0 (i ≤ l0_1.length) ∧ Aside0 (schema_Check.lp (l0_1.drop i) seen = some t) ∧ Aside0 (w'.ownsMap Tryz.prog 9 (plainElem Tryz.prog 4) w2.heap.size i D) ∧ Aside0 (schema_Check.Reads D seen) ∧ Aside0 (w'.heap[w.heap.size]? = some (.cells #[.string a0_0, .slice A0_1 l0_1.length c0_1] 24 (0, 0))) ∧ Aside0 (Below w.heap.size w w'))
  case atStart => exact ⟨0, [], .map [], rfl, ⟨by omega⟩, ⟨by omega⟩, HL, ⟨World.ownsMap_made _ _ _ _⟩, ⟨schema_Check.Reads.nil⟩, ⟨blk_alloc hD1.out _⟩, ⟨below_alloc HB2.out _⟩⟩
  case round =>
    clear HL hD1 HB2
    obtain ⟨i, seen, D, rfl, HI, HJ, HL, HO, HD, HK, HB⟩ := hrel
    cases gk with
    | zero => exact absurd HI.out (by have := HJ.out; omega)
    | succ k1 =>
      have hz0 : wr.cell? ⟨w.heap.size, 1, none⟩ = some (.slice A0_1 l0_1.length c0_1) := (blk_cell HK.out 1).trans rfl
      rcases Nat.lt_or_ge i l0_1.length with c | c
      · have c0 : decide ((i : Int) < (l0_1.length : Int)) = true := decide_eq_true (by omega)
        obtain ⟨ad, e218, hx0, hx1, hx2, hx3⟩ := at_T36 HR.out (i : Int) (by omega) (by omega)
        have hL := HL.out
        have ec : l0_1[i] = rd_T36 l0_1 (i : Int) := by unfold rd_T36; rw [show ((i : Int).toNat) = i from rfl, List.getD_eq_getElem?_getD, List.getElem?_eq_getElem c]; rfl
        rw [List.drop_eq_getElem_cons c, ec] at hL
        have hsz := HN.out i c
        cases e218
        replace hx0 := (HB.out.cell (World.block_lt_of_cell? w _ hx0)).trans hx0
        replace hx1 := (HB.out.cell (World.block_lt_of_cell? w _ hx1)).trans hx1
        replace hx2 := (HB.out.cell (World.block_lt_of_cell? w _ hx2)).trans hx2
        replace hx3 := (HB.out.cell (World.block_lt_of_cell? w _ hx3)).trans hx3
        rw [show ((i : Int).toNat) = i from rfl] at hx0 hx1 hx2 hx3
        have p1 : ((0 : Int) ≤ (i : Int)) = True := eq_true (by omega)
        have p2 : ((i : Int) < (l0_1.length : Int)) = True := eq_true (by omega)
        have p3 : (i < l0_1.length) = True := eq_true c
        clear HL ec c HN
        generalize rd_T36 l0_1 (i : Int) = cc at hx0 hx1 hx2 hx3 hL hsz
        obtain ⟨cn, ⟨ck, csc⟩, cb⟩ := cc
        have hkey := Aside0.mk (Go.WideMaps.keyOf_string_mk Tryz.underlying9 (s := cn) (Nat.le_trans hsz (by decide)))
        clear hsz
        simp only [schema_Check.lp] at hL
        by_cases hs : seen.any (· == cn.data.toList) = true
        · rw [if_pos hs] at hL
          obtain rfl := Option.some.inj hL
          have hr := HRE.out
          rw [if_neg (by decide)] at hr
          subst hr
          have hat := Aside0.mk ((HD.out.at_ cn.data.toList).trans (by rw [hs]))
          clear hL hs
          go_wp2_with (first | ((with_reducible refine gate_dst (N := 5) rfl ?_); refine box_event ?hg (N := 5) ?hd (cs := #[.string (⟨#[]⟩ : ByteArray), .int .i64 0, .int .i64 0, .bool false]) (t := 36) ?hr ?_; (case hd => rfl); (case hg => rfl); (case hr => first | (go_simp; done) | (go_simp; rfl)); intro gb hg w8 hbox hb; have HB8 := Aside0.mk (below_step HB.out hb); have OWN8 := Aside0.mk (schema_Check.own_below HO.out hb); have BK8 := Aside0.mk (blk_below HK.out hb); have GE8 : Aside0 (w.heap.size ≤ gb) := ⟨by rw [hg]; exact HB.out.size⟩; have NA8 : Aside0 (w.heap.size ≠ gb) := ⟨by rw [hg]; exact Nat.ne_of_lt (blk_lt HK.out)⟩; have NM8 : Aside0 (w2.heap.size ≠ gb) := ⟨by rw [hg]; exact Nat.ne_of_lt HO.out.lt⟩; have BX8 := Aside0.mk hbox; clear hb hbox hg; have hcz0 : w8.cell? ⟨gb, 0, none⟩ = some (.string (⟨#[]⟩ : ByteArray)) := (blk_cell BX8.out 0).trans rfl; have hcz1 : w8.cell? ⟨gb, 1, none⟩ = some (.int .i64 0) := (blk_cell BX8.out 1).trans rfl; have hcz2 : w8.cell? ⟨gb, 2, none⟩ = some (.int .i64 0) := (blk_cell BX8.out 2).trans rfl; have hcz3 : w8.cell? ⟨gb, 3, none⟩ = some (.bool false) := (blk_cell BX8.out 3).trans rfl; have hfz0 := blk_frozen BX8.out 0; have hfz1 := blk_frozen BX8.out 1; have hfz2 := blk_frozen BX8.out 2; have hfz3 := blk_frozen BX8.out 3) | (at_lookup; refine schema_Check.look_bool _ rfl _ _ 79 rfl 9 4 (Go.Maps.string_keyed Tryz.underlying9) Tryz.underlying79 Tryz.underlying4 (Tryz.zeroValue4 _) w2.heap.size i D rfl (by repeat (first | exact OWN8.out | refine schema_Check.own_set ?_ NM8.out _)) _ _ rfl hkey.out true hat.out ?_))
          go_ret
          exact ⟨rfl, by repeat (first | exact HB8.out | refine below_set ?_ GE8.out | apply below_drew1 | apply pw_below_drewN)⟩
        · rw [if_neg hs] at hL
          have hat := Aside0.mk ((HD.out.at_ cn.data.toList).trans (by rw [Bool.eq_false_iff.mpr hs]))
          clear hs
          obtain ⟨tt, hct, hL⟩ := Option.bind_eq_some_iff.1 hL
          have HCT := Aside0.mk hct
          clear hct
          by_cases ht : tt = 0
          · rw [if_pos ht] at hL
            have HL := Aside0.mk hL
            clear hL
            subst ht
            go_wp2_with (first | ((with_reducible refine gate_dst (N := 5) rfl ?_); refine box_event ?hg (N := 5) ?hd (cs := #[.string (⟨#[]⟩ : ByteArray), .int .i64 0, .int .i64 0, .bool false]) (t := 36) ?hr ?_; (case hd => rfl); (case hg => rfl); (case hr => first | (go_simp; done) | (go_simp; rfl)); intro gb hg w8 hbox hb; have HB8 := Aside0.mk (below_step HB.out hb); have OWN8 := Aside0.mk (schema_Check.own_below HO.out hb); have BK8 := Aside0.mk (blk_below HK.out hb); have GE8 : Aside0 (w.heap.size ≤ gb) := ⟨by rw [hg]; exact HB.out.size⟩; have NA8 : Aside0 (w.heap.size ≠ gb) := ⟨by rw [hg]; exact Nat.ne_of_lt (blk_lt HK.out)⟩; have NM8 : Aside0 (w2.heap.size ≠ gb) := ⟨by rw [hg]; exact Nat.ne_of_lt HO.out.lt⟩; have BX8 := Aside0.mk hbox; clear hb hbox hg; have hcz0 : w8.cell? ⟨gb, 0, none⟩ = some (.string (⟨#[]⟩ : ByteArray)) := (blk_cell BX8.out 0).trans rfl; have hcz1 : w8.cell? ⟨gb, 1, none⟩ = some (.int .i64 0) := (blk_cell BX8.out 1).trans rfl; have hcz2 : w8.cell? ⟨gb, 2, none⟩ = some (.int .i64 0) := (blk_cell BX8.out 2).trans rfl; have hcz3 : w8.cell? ⟨gb, 3, none⟩ = some (.bool false) := (blk_cell BX8.out 3).trans rfl; have hfz0 := blk_frozen BX8.out 0; have hfz1 := blk_frozen BX8.out 1; have hfz2 := blk_frozen BX8.out 2; have hfz3 := blk_frozen BX8.out 3) | (at_lookup; refine schema_Check.look_bool _ rfl _ _ 79 rfl 9 4 (Go.Maps.string_keyed Tryz.underlying9) Tryz.underlying79 Tryz.underlying4 (Tryz.zeroValue4 _) w2.heap.size i D rfl (by repeat (first | exact OWN8.out | refine schema_Check.own_set ?_ NM8.out _)) _ _ rfl hkey.out false hat.out ?_) | (go_at_call 52; refine (value_CheckType.calls ck csc 0 _ HCT.out).mono ?_; rintro e w9 ⟨rfl, hb⟩; have HB9 := Aside0.mk (below_step (by repeat (first | exact HB8.out | refine below_set ?_ GE8.out | apply below_drew1 | apply pw_below_drewN)) hb); have OWN9 : Aside0 (w9.ownsMap Tryz.prog 9 (plainElem Tryz.prog 4) w2.heap.size i D) := ⟨schema_Check.own_below (by repeat (first | exact OWN8.out | refine schema_Check.own_set ?_ NM8.out _)) hb⟩; have BK9 : Aside0 (w9.heap[w.heap.size]? = some (.cells #[.string a0_0, .slice (some ad) l0_1.length c0_1] 24 (0, 0))) := ⟨blk_below (by repeat (first | exact BK8.out | refine blk_far ?_ NA8.out _ | refine blk_drewN ?_ _ | refine blk_drew ?_)) hb⟩; have hcn : w9.cell? ⟨gb, 0, none⟩ = some (.string cn) := schema_Check.cell0 hcz0 hb; clear hb) | (at_mapUpdate; refine wpList_mapUpdate_own _ rfl _ _ _ 79 rfl 9 4 (Go.Maps.string_keyed Tryz.underlying9) Tryz.underlying79 (plainElem (H := Unit) Tryz.prog 4) w2.heap.size i D rfl OWN9.out (by have := HJ.out; have := HBIG.out; unfold maxLen; omega) _ _ _ rfl rfl hkey.out _ [] (plainElem_bool Tryz.underlying4 true) ?_; intro w10 hown hgrow; have OWN10 := Aside0.mk hown; have HB10 := Aside0.mk (HB9.out.grown hgrow HB9.out.size (fun j hj => by cases hj; exact HS2.out)); have BK10 := Aside0.mk (blk_grown BK9.out hgrow (by intro z; exact NE2.out (Option.some.inj z))); clear hown hgrow))
            have hw : wrap64 ((i : Int) + 1) = ((i + 1 : Nat) : Int) := by have := HJ.out; have := HBIG.out; unfold wrap64; omega
            go_roundg k1
            case measure => have := HI.out; have := HJ.out; omega
            case rel => exact ⟨i + 1, cn.data.toList :: seen, _, by first | (rw [hw]) | rfl | (simp; done) | (simp [*]; done), ⟨by have := HI.out; omega⟩, ⟨by have := of_eq_true p3; omega⟩, HL, OWN10, ⟨HD.out.put _ OWN10.out.isMap⟩, BK10, HB10⟩
          · rw [if_neg ht] at hL
            obtain rfl := Option.some.inj hL
            have hr := HRE.out
            rw [if_neg (by decide)] at hr
            subst hr
            have c1 : (tt != 0) = true := bne_iff_ne.mpr ht
            have c2 : (tt == 0) = false := beq_eq_false_iff_ne.mpr ht
            clear hL ht
            go_wp2_with (first | ((with_reducible refine gate_dst (N := 5) rfl ?_); refine box_event ?hg (N := 5) ?hd (cs := #[.string (⟨#[]⟩ : ByteArray), .int .i64 0, .int .i64 0, .bool false]) (t := 36) ?hr ?_; (case hd => rfl); (case hg => rfl); (case hr => first | (go_simp; done) | (go_simp; rfl)); intro gb hg w8 hbox hb; have HB8 := Aside0.mk (below_step HB.out hb); have OWN8 := Aside0.mk (schema_Check.own_below HO.out hb); have BK8 := Aside0.mk (blk_below HK.out hb); have GE8 : Aside0 (w.heap.size ≤ gb) := ⟨by rw [hg]; exact HB.out.size⟩; have NA8 : Aside0 (w.heap.size ≠ gb) := ⟨by rw [hg]; exact Nat.ne_of_lt (blk_lt HK.out)⟩; have NM8 : Aside0 (w2.heap.size ≠ gb) := ⟨by rw [hg]; exact Nat.ne_of_lt HO.out.lt⟩; have BX8 := Aside0.mk hbox; clear hb hbox hg; have hcz0 : w8.cell? ⟨gb, 0, none⟩ = some (.string (⟨#[]⟩ : ByteArray)) := (blk_cell BX8.out 0).trans rfl; have hcz1 : w8.cell? ⟨gb, 1, none⟩ = some (.int .i64 0) := (blk_cell BX8.out 1).trans rfl; have hcz2 : w8.cell? ⟨gb, 2, none⟩ = some (.int .i64 0) := (blk_cell BX8.out 2).trans rfl; have hcz3 : w8.cell? ⟨gb, 3, none⟩ = some (.bool false) := (blk_cell BX8.out 3).trans rfl; have hfz0 := blk_frozen BX8.out 0; have hfz1 := blk_frozen BX8.out 1; have hfz2 := blk_frozen BX8.out 2; have hfz3 := blk_frozen BX8.out 3) | (at_lookup; refine schema_Check.look_bool _ rfl _ _ 79 rfl 9 4 (Go.Maps.string_keyed Tryz.underlying9) Tryz.underlying79 Tryz.underlying4 (Tryz.zeroValue4 _) w2.heap.size i D rfl (by repeat (first | exact OWN8.out | refine schema_Check.own_set ?_ NM8.out _)) _ _ rfl hkey.out false hat.out ?_) | (go_at_call 52; refine (value_CheckType.calls ck csc tt _ HCT.out).mono ?_; rintro e w9 ⟨rfl, hb⟩; have HB9 := Aside0.mk (below_step (by repeat (first | exact HB8.out | refine below_set ?_ GE8.out | apply below_drew1 | apply pw_below_drewN)) hb); have OWN9 : Aside0 (w9.ownsMap Tryz.prog 9 (plainElem Tryz.prog 4) w2.heap.size i D) := ⟨schema_Check.own_below (by repeat (first | exact OWN8.out | refine schema_Check.own_set ?_ NM8.out _)) hb⟩; have BK9 : Aside0 (w9.heap[w.heap.size]? = some (.cells #[.string a0_0, .slice (some ad) l0_1.length c0_1] 24 (0, 0))) := ⟨blk_below (by repeat (first | exact BK8.out | refine blk_far ?_ NA8.out _ | refine blk_drewN ?_ _ | refine blk_drew ?_)) hb⟩; have hcn : w9.cell? ⟨gb, 0, none⟩ = some (.string cn) := schema_Check.cell0 hcz0 hb; clear hb))
            go_ret
            exact ⟨rfl, HB9.out⟩
      · have c0 : decide ((i : Int) < (l0_1.length : Int)) = false := decide_eq_false (by omega)
        have e : i = l0_1.length := by have := HJ.out; omega
        have q1 : ((i : Int) < (l0_1.length : Int)) = False := eq_false (by omega)
        have q2 : (i < l0_1.length) = False := eq_false (by omega)
        have hL := HL.out
        rw [e, List.drop_length] at hL
        have et : (0 : Int) = t := Option.some.inj hL
        subst et
        clear e hL HL c
        have q0 : ((l0_1.length : Int) < (l0_1.length : Int)) = False := eq_false (by omega)
        by_cases d0 : l0_1.length = 0
        · have d1 : ((l0_1.length : Int) == 0) = true := beq_iff_eq.mpr (by omega)
          have d2 := HRE.out
          rw [if_pos rfl, if_pos (.inl d0)] at d2
          subst d2
          clear d0
          go_wp2
          go_ret
          exact ⟨rfl, by repeat (first | exact HB.out | apply below_drew1 | apply pw_below_drewN)⟩
        · have d1 : ((l0_1.length : Int) == 0) = false := beq_eq_false_iff_ne.mpr (by omega)
          by_cases d3 : 32 < l0_1.length
          · have d4 : decide ((32 : Int) < (l0_1.length : Int)) = true := decide_eq_true (by omega)
            have d2 := HRE.out
            rw [if_pos rfl, if_pos (.inr d3)] at d2
            subst d2
            clear d0 d3
            go_wp2
            go_ret
            exact ⟨rfl, by repeat (first | exact HB.out | apply below_drew1 | apply pw_below_drewN)⟩
          · have d4 : decide ((32 : Int) < (l0_1.length : Int)) = false := decide_eq_false (by omega)
            have d2 := HRE.out
            rw [if_pos rfl, if_neg (by rintro (z | z); exact d0 z; exact d3 z)] at d2
            subst d2
            clear d0 d3
            go_wp2
            go_ret
            exact ⟨rfl, by repeat (first | exact HB.out | apply below_drew1 | apply pw_below_drewN)⟩


/-! ### colonnaderef02_CheckType: function 54 -/
def colonnaderef02_CheckType.f (a0_0 : Int) (a0_1 : Int) : Option (Int) := if a0_0 < 1 then (some 21) else (if a0_0 > 5 then (some 21) else (if a0_1 < 0 then (some 21) else (if a0_1 > 18 then (some 21) else (if a0_0 = 3 then (some 0) else (if a0_1 = 0 then (some 0) else (some 21))))))
set_option maxHeartbeats 8000000 in
set_option maxRecDepth 100000 in
theorem colonnaderef02_CheckType.calls (a0_0 : Int) (a0_1 : Int) (r : Int) (w : World) (h : colonnaderef02_CheckType.f a0_0 a0_1 = some r) :
    Calls Tryz.prog 54 #[.agg #[.int .i64 a0_0, .int .i64 a0_1]] w fun e w' => e = .returned (.int .i64 r) ∧ Below w.heap.size w w' := by
  have hu34 := Tryz.underlying34
  have HB := Aside0.mk (Below.refl w.heap.size w)
  have H : (if a0_0 < 1 then (some 21) else (if a0_0 > 5 then (some 21) else (if a0_1 < 0 then (some 21) else (if a0_1 > 18 then (some 21) else (if a0_0 = 3 then (some 0) else (if a0_1 = 0 then (some 0) else (some 21))))))) = some r := h
  clear h
  by_cases c2 : a0_0 < 1
  · rw [if_pos c2] at H
    have c2b0 : decide (a0_0 < 1) = true := decide_eq_true c2
    clear c2
    obtain rfl := Option.some.inj H
    go_enter Tryz.func54, Tryz.ntmps54
    go_wp2_with (first | ((with_reducible refine gate_dst (N := 1) rfl ?_); refine box_event ?hg (N := 1) ?hd (cs := #[.int .i64 a0_0, .int .i64 a0_1]) (t := 34) ?hr ?_; (case hd => rfl); (case hg => rfl); (case hr => first | (go_simp; done) | (go_simp; rfl)); intro gb213 hg w3 hbox hb; have n0_ := Aside0.mk (below_step (by repeat (first | (with_reducible first | exact HB.out | apply below_alloc | apply pw_below_drewN | apply below_drew1) | exact HB.out)) hb); have n1_ := Aside0.mk (hbox); have n2_ := Aside0.mk ((by rw [hg]; exact (below_size (by repeat (first | (with_reducible first | exact HB.out | apply below_alloc | apply pw_below_drewN | apply below_drew1) | exact HB.out))) : w.heap.size ≤ gb213)); have n3_ := Aside0.mk ((by rw [hg]; exact (below_size (by repeat (first | (with_reducible first | exact HB.out | apply below_alloc | apply pw_below_drewN | apply below_drew1) | exact HB.out))) : w.heap.size ≤ gb213)); clear HB; have HB := n0_; have BK213 := n1_; have GW213 := n2_; have GE213 := n3_; clear n0_ n1_ n2_ n3_; clear hb hbox hg; have hcz4_0 : w3.cell? ⟨gb213, 0, none⟩ = some (.int .i64 a0_0) := (blk_cell BK213.out 0).trans rfl; have hcz4_1 : w3.cell? ⟨gb213, 1, none⟩ = some (.int .i64 a0_1) := (blk_cell BK213.out 1).trans rfl; have hfz4_0 := blk_frozen BK213.out 0; have hfz4_1 := blk_frozen BK213.out 1))
    go_ret
    exact ⟨by first | rfl | (simp [errW_none, errW_some] <;> rfl) | (simp [*, errW_none, errW_some] <;> rfl), by repeat (first | (with_reducible first | exact HB.out | apply below_alloc | apply pw_below_drewN | apply below_drew1 | refine below_set ?_ GE213.out) | exact HB.out)⟩
  · rw [if_neg c2] at H
    have c2b0 : decide (a0_0 < 1) = false := decide_eq_false c2
    clear c2
    by_cases c5 : a0_0 > 5
    · rw [if_pos c5] at H
      have c5b0 : decide (5 < a0_0) = true := decide_eq_true c5
      clear c5
      obtain rfl := Option.some.inj H
      go_enter Tryz.func54, Tryz.ntmps54
      go_wp2_with (first | ((with_reducible refine gate_dst (N := 1) rfl ?_); refine box_event ?hg (N := 1) ?hd (cs := #[.int .i64 a0_0, .int .i64 a0_1]) (t := 34) ?hr ?_; (case hd => rfl); (case hg => rfl); (case hr => first | (go_simp; done) | (go_simp; rfl)); intro gb213 hg w6 hbox hb; have n0_ := Aside0.mk (below_step (by repeat (first | (with_reducible first | exact HB.out | apply below_alloc | apply pw_below_drewN | apply below_drew1) | exact HB.out)) hb); have n1_ := Aside0.mk (hbox); have n2_ := Aside0.mk ((by rw [hg]; exact (below_size (by repeat (first | (with_reducible first | exact HB.out | apply below_alloc | apply pw_below_drewN | apply below_drew1) | exact HB.out))) : w.heap.size ≤ gb213)); have n3_ := Aside0.mk ((by rw [hg]; exact (below_size (by repeat (first | (with_reducible first | exact HB.out | apply below_alloc | apply pw_below_drewN | apply below_drew1) | exact HB.out))) : w.heap.size ≤ gb213)); clear HB; have HB := n0_; have BK213 := n1_; have GW213 := n2_; have GE213 := n3_; clear n0_ n1_ n2_ n3_; clear hb hbox hg; have hcz7_0 : w6.cell? ⟨gb213, 0, none⟩ = some (.int .i64 a0_0) := (blk_cell BK213.out 0).trans rfl; have hcz7_1 : w6.cell? ⟨gb213, 1, none⟩ = some (.int .i64 a0_1) := (blk_cell BK213.out 1).trans rfl; have hfz7_0 := blk_frozen BK213.out 0; have hfz7_1 := blk_frozen BK213.out 1))
      go_ret
      exact ⟨by first | rfl | (simp [errW_none, errW_some] <;> rfl) | (simp [*, errW_none, errW_some] <;> rfl), by repeat (first | (with_reducible first | exact HB.out | apply below_alloc | apply pw_below_drewN | apply below_drew1 | refine below_set ?_ GE213.out) | exact HB.out)⟩
    · rw [if_neg c5] at H
      have c5b0 : decide (5 < a0_0) = false := decide_eq_false c5
      clear c5
      by_cases c8 : a0_1 < 0
      · rw [if_pos c8] at H
        have c8b0 : decide (a0_1 < 0) = true := decide_eq_true c8
        clear c8
        obtain rfl := Option.some.inj H
        go_enter Tryz.func54, Tryz.ntmps54
        go_wp2_with (first | ((with_reducible refine gate_dst (N := 1) rfl ?_); refine box_event ?hg (N := 1) ?hd (cs := #[.int .i64 a0_0, .int .i64 a0_1]) (t := 34) ?hr ?_; (case hd => rfl); (case hg => rfl); (case hr => first | (go_simp; done) | (go_simp; rfl)); intro gb213 hg w9 hbox hb; have n0_ := Aside0.mk (below_step (by repeat (first | (with_reducible first | exact HB.out | apply below_alloc | apply pw_below_drewN | apply below_drew1) | exact HB.out)) hb); have n1_ := Aside0.mk (hbox); have n2_ := Aside0.mk ((by rw [hg]; exact (below_size (by repeat (first | (with_reducible first | exact HB.out | apply below_alloc | apply pw_below_drewN | apply below_drew1) | exact HB.out))) : w.heap.size ≤ gb213)); have n3_ := Aside0.mk ((by rw [hg]; exact (below_size (by repeat (first | (with_reducible first | exact HB.out | apply below_alloc | apply pw_below_drewN | apply below_drew1) | exact HB.out))) : w.heap.size ≤ gb213)); clear HB; have HB := n0_; have BK213 := n1_; have GW213 := n2_; have GE213 := n3_; clear n0_ n1_ n2_ n3_; clear hb hbox hg; have hcz10_0 : w9.cell? ⟨gb213, 0, none⟩ = some (.int .i64 a0_0) := (blk_cell BK213.out 0).trans rfl; have hcz10_1 : w9.cell? ⟨gb213, 1, none⟩ = some (.int .i64 a0_1) := (blk_cell BK213.out 1).trans rfl; have hfz10_0 := blk_frozen BK213.out 0; have hfz10_1 := blk_frozen BK213.out 1))
        go_ret
        exact ⟨by first | rfl | (simp [errW_none, errW_some] <;> rfl) | (simp [*, errW_none, errW_some] <;> rfl), by repeat (first | (with_reducible first | exact HB.out | apply below_alloc | apply pw_below_drewN | apply below_drew1 | refine below_set ?_ GE213.out) | exact HB.out)⟩
      · rw [if_neg c8] at H
        have c8b0 : decide (a0_1 < 0) = false := decide_eq_false c8
        clear c8
        by_cases c11 : a0_1 > 18
        · rw [if_pos c11] at H
          have c11b0 : decide (18 < a0_1) = true := decide_eq_true c11
          clear c11
          obtain rfl := Option.some.inj H
          go_enter Tryz.func54, Tryz.ntmps54
          go_wp2_with (first | ((with_reducible refine gate_dst (N := 1) rfl ?_); refine box_event ?hg (N := 1) ?hd (cs := #[.int .i64 a0_0, .int .i64 a0_1]) (t := 34) ?hr ?_; (case hd => rfl); (case hg => rfl); (case hr => first | (go_simp; done) | (go_simp; rfl)); intro gb213 hg w12 hbox hb; have n0_ := Aside0.mk (below_step (by repeat (first | (with_reducible first | exact HB.out | apply below_alloc | apply pw_below_drewN | apply below_drew1) | exact HB.out)) hb); have n1_ := Aside0.mk (hbox); have n2_ := Aside0.mk ((by rw [hg]; exact (below_size (by repeat (first | (with_reducible first | exact HB.out | apply below_alloc | apply pw_below_drewN | apply below_drew1) | exact HB.out))) : w.heap.size ≤ gb213)); have n3_ := Aside0.mk ((by rw [hg]; exact (below_size (by repeat (first | (with_reducible first | exact HB.out | apply below_alloc | apply pw_below_drewN | apply below_drew1) | exact HB.out))) : w.heap.size ≤ gb213)); clear HB; have HB := n0_; have BK213 := n1_; have GW213 := n2_; have GE213 := n3_; clear n0_ n1_ n2_ n3_; clear hb hbox hg; have hcz13_0 : w12.cell? ⟨gb213, 0, none⟩ = some (.int .i64 a0_0) := (blk_cell BK213.out 0).trans rfl; have hcz13_1 : w12.cell? ⟨gb213, 1, none⟩ = some (.int .i64 a0_1) := (blk_cell BK213.out 1).trans rfl; have hfz13_0 := blk_frozen BK213.out 0; have hfz13_1 := blk_frozen BK213.out 1))
          go_ret
          exact ⟨by first | rfl | (simp [errW_none, errW_some] <;> rfl) | (simp [*, errW_none, errW_some] <;> rfl), by repeat (first | (with_reducible first | exact HB.out | apply below_alloc | apply pw_below_drewN | apply below_drew1 | refine below_set ?_ GE213.out) | exact HB.out)⟩
        · rw [if_neg c11] at H
          have c11b0 : decide (18 < a0_1) = false := decide_eq_false c11
          clear c11
          by_cases c14 : a0_0 = 3
          · rw [if_pos c14] at H
            have c14b0 : (a0_0 == 3) = true := beq_iff_eq.mpr c14
            have c14b1 : (a0_0 != 3) = false := bne_eq_false_iff_eq.mpr c14
            clear c14
            obtain rfl := Option.some.inj H
            go_enter Tryz.func54, Tryz.ntmps54
            go_wp2_with (first | ((with_reducible refine gate_dst (N := 1) rfl ?_); refine box_event ?hg (N := 1) ?hd (cs := #[.int .i64 a0_0, .int .i64 a0_1]) (t := 34) ?hr ?_; (case hd => rfl); (case hg => rfl); (case hr => first | (go_simp; done) | (go_simp; rfl)); intro gb213 hg w15 hbox hb; have n0_ := Aside0.mk (below_step (by repeat (first | (with_reducible first | exact HB.out | apply below_alloc | apply pw_below_drewN | apply below_drew1) | exact HB.out)) hb); have n1_ := Aside0.mk (hbox); have n2_ := Aside0.mk ((by rw [hg]; exact (below_size (by repeat (first | (with_reducible first | exact HB.out | apply below_alloc | apply pw_below_drewN | apply below_drew1) | exact HB.out))) : w.heap.size ≤ gb213)); have n3_ := Aside0.mk ((by rw [hg]; exact (below_size (by repeat (first | (with_reducible first | exact HB.out | apply below_alloc | apply pw_below_drewN | apply below_drew1) | exact HB.out))) : w.heap.size ≤ gb213)); clear HB; have HB := n0_; have BK213 := n1_; have GW213 := n2_; have GE213 := n3_; clear n0_ n1_ n2_ n3_; clear hb hbox hg; have hcz16_0 : w15.cell? ⟨gb213, 0, none⟩ = some (.int .i64 a0_0) := (blk_cell BK213.out 0).trans rfl; have hcz16_1 : w15.cell? ⟨gb213, 1, none⟩ = some (.int .i64 a0_1) := (blk_cell BK213.out 1).trans rfl; have hfz16_0 := blk_frozen BK213.out 0; have hfz16_1 := blk_frozen BK213.out 1))
            go_ret
            exact ⟨by first | rfl | (simp [errW_none, errW_some] <;> rfl) | (simp [*, errW_none, errW_some] <;> rfl), by repeat (first | (with_reducible first | exact HB.out | apply below_alloc | apply pw_below_drewN | apply below_drew1 | refine below_set ?_ GE213.out) | exact HB.out)⟩
          · rw [if_neg c14] at H
            have c14b0 : (a0_0 == 3) = false := beq_eq_false_iff_ne.mpr c14
            have c14b1 : (a0_0 != 3) = true := bne_iff_ne.mpr c14
            by_cases c17 : a0_1 = 0
            · rw [if_pos c17] at H
              have c17b0 : (a0_1 == 0) = true := beq_iff_eq.mpr c17
              have c17b1 : (a0_1 != 0) = false := bne_eq_false_iff_eq.mpr c17
              clear c17
              obtain rfl := Option.some.inj H
              go_enter Tryz.func54, Tryz.ntmps54
              go_wp2_with (first | ((with_reducible refine gate_dst (N := 1) rfl ?_); refine box_event ?hg (N := 1) ?hd (cs := #[.int .i64 a0_0, .int .i64 a0_1]) (t := 34) ?hr ?_; (case hd => rfl); (case hg => rfl); (case hr => first | (go_simp; done) | (go_simp; rfl)); intro gb213 hg w18 hbox hb; have n0_ := Aside0.mk (below_step (by repeat (first | (with_reducible first | exact HB.out | apply below_alloc | apply pw_below_drewN | apply below_drew1) | exact HB.out)) hb); have n1_ := Aside0.mk (hbox); have n2_ := Aside0.mk ((by rw [hg]; exact (below_size (by repeat (first | (with_reducible first | exact HB.out | apply below_alloc | apply pw_below_drewN | apply below_drew1) | exact HB.out))) : w.heap.size ≤ gb213)); have n3_ := Aside0.mk ((by rw [hg]; exact (below_size (by repeat (first | (with_reducible first | exact HB.out | apply below_alloc | apply pw_below_drewN | apply below_drew1) | exact HB.out))) : w.heap.size ≤ gb213)); clear HB; have HB := n0_; have BK213 := n1_; have GW213 := n2_; have GE213 := n3_; clear n0_ n1_ n2_ n3_; clear hb hbox hg; have hcz19_0 : w18.cell? ⟨gb213, 0, none⟩ = some (.int .i64 a0_0) := (blk_cell BK213.out 0).trans rfl; have hcz19_1 : w18.cell? ⟨gb213, 1, none⟩ = some (.int .i64 a0_1) := (blk_cell BK213.out 1).trans rfl; have hfz19_0 := blk_frozen BK213.out 0; have hfz19_1 := blk_frozen BK213.out 1))
              go_ret
              exact ⟨by first | rfl | (simp [errW_none, errW_some] <;> rfl) | (simp [*, errW_none, errW_some] <;> rfl), by repeat (first | (with_reducible first | exact HB.out | apply below_alloc | apply pw_below_drewN | apply below_drew1 | refine below_set ?_ GE213.out) | exact HB.out)⟩
            · rw [if_neg c17] at H
              have c17b0 : (a0_1 == 0) = false := beq_eq_false_iff_ne.mpr c17
              have c17b1 : (a0_1 != 0) = true := bne_iff_ne.mpr c17
              obtain rfl := Option.some.inj H
              go_enter Tryz.func54, Tryz.ntmps54
              go_wp2_with (first | ((with_reducible refine gate_dst (N := 1) rfl ?_); refine box_event ?hg (N := 1) ?hd (cs := #[.int .i64 a0_0, .int .i64 a0_1]) (t := 34) ?hr ?_; (case hd => rfl); (case hg => rfl); (case hr => first | (go_simp; done) | (go_simp; rfl)); intro gb213 hg w20 hbox hb; have n0_ := Aside0.mk (below_step (by repeat (first | (with_reducible first | exact HB.out | apply below_alloc | apply pw_below_drewN | apply below_drew1) | exact HB.out)) hb); have n1_ := Aside0.mk (hbox); have n2_ := Aside0.mk ((by rw [hg]; exact (below_size (by repeat (first | (with_reducible first | exact HB.out | apply below_alloc | apply pw_below_drewN | apply below_drew1) | exact HB.out))) : w.heap.size ≤ gb213)); have n3_ := Aside0.mk ((by rw [hg]; exact (below_size (by repeat (first | (with_reducible first | exact HB.out | apply below_alloc | apply pw_below_drewN | apply below_drew1) | exact HB.out))) : w.heap.size ≤ gb213)); clear HB; have HB := n0_; have BK213 := n1_; have GW213 := n2_; have GE213 := n3_; clear n0_ n1_ n2_ n3_; clear hb hbox hg; have hcz21_0 : w20.cell? ⟨gb213, 0, none⟩ = some (.int .i64 a0_0) := (blk_cell BK213.out 0).trans rfl; have hcz21_1 : w20.cell? ⟨gb213, 1, none⟩ = some (.int .i64 a0_1) := (blk_cell BK213.out 1).trans rfl; have hfz21_0 := blk_frozen BK213.out 0; have hfz21_1 := blk_frozen BK213.out 1))
              go_ret
              exact ⟨by first | rfl | (simp [errW_none, errW_some] <;> rfl) | (simp [*, errW_none, errW_some] <;> rfl), by repeat (first | (with_reducible first | exact HB.out | apply below_alloc | apply pw_below_drewN | apply below_drew1 | refine below_set ?_ GE213.out) | exact HB.out)⟩

/-! ### colonnaderef01_Fits: function 55 -/
def colonnaderef01_Fits.f (a0 : Int) : Option (Bool) := if a0 ≥ (-999999999999999999) then (some (decide (a0 ≤ 999999999999999999))) else (some false)
set_option maxHeartbeats 8000000 in
set_option maxRecDepth 100000 in
theorem colonnaderef01_Fits.calls (a0 : Int) (r : Bool) (w : World) (h : colonnaderef01_Fits.f a0 = some r) :
    Calls Tryz.prog 55 #[.int .i64 a0] w fun e w' => e = .returned (.bool r) ∧ Drawn0 w w' := by
  have H : (if a0 ≥ (-999999999999999999) then (some (decide (a0 ≤ 999999999999999999))) else (some false)) = some r := h
  clear h
  by_cases c2 : a0 ≥ (-999999999999999999)
  · rw [if_pos c2] at H
    have c2b0 : decide ((-999999999999999999) ≤ a0) = true := decide_eq_true c2
    clear c2
    obtain rfl := Option.some.inj H
    go_enter Tryz.func55, Tryz.ntmps55
    go_wp2
    go_ret
    exact ⟨by first | rfl | (simp; done) | (simp [*]; done), by repeat (first | exact Drawn0.refl _ | apply Drawn0.step)⟩
  · rw [if_neg c2] at H
    have c2b0 : decide ((-999999999999999999) ≤ a0) = false := decide_eq_false c2
    clear c2
    obtain rfl := Option.some.inj H
    go_enter Tryz.func55, Tryz.ntmps55
    go_wp2
    go_ret
    exact ⟨by first | rfl | (simp; done) | (simp [*]; done), by repeat (first | exact Drawn0.refl _ | apply Drawn0.step)⟩

/-! ### colonnaderef02_Check: function 21 -/
def colonnaderef02_Check.f (a0_0 : Int) (a0_1 : Int) (a0_2 : Bool) (a0_3 : Int) (a0_4 : ByteArray) : Option (Int) := (colonnaderef02_CheckType.f a0_0 a0_1).bind fun t215 => (if t215 = 0 then (if a0_2 = true then (if a0_3 = 0 then (if a0_4.toList = ([] : List UInt8) then (some 0) else (some 20)) else (some 20)) else (if a0_0 = 4 then (if a0_3 = 0 then (if (a0_4.size : Int) > 256 then (some 20) else (some 0)) else (some 20)) else (if a0_4.toList = ([] : List UInt8) then (if a0_0 = 1 then (if a0_3 = 0 then (some 0) else (if a0_3 = 1 then (some 0) else (some 20))) else (if a0_0 = 3 then ((colonnaderef01_Fits.f a0_3).bind fun t216 => (if t216 = true then (some 0) else (some 20))) else (if a0_0 = 5 then (if a0_3 < (-719162) then (some 20) else (if a0_3 > 2932896 then (some 20) else (some 0))) else (some 0)))) else (some 20)))) else (some t215))
set_option maxHeartbeats 8000000 in
set_option maxRecDepth 100000 in
theorem colonnaderef02_Check.calls (a0_0 : Int) (a0_1 : Int) (a0_2 : Bool) (a0_3 : Int) (a0_4 : ByteArray) (r : Int) (w : World) (h : colonnaderef02_Check.f a0_0 a0_1 a0_2 a0_3 a0_4 = some r) :
    Calls Tryz.prog 21 #[.agg #[.int .i64 a0_0, .int .i64 a0_1, .bool a0_2, .int .i64 a0_3, .string a0_4]] w fun e w' => e = .returned (.int .i64 r) ∧ Below w.heap.size w w' := by
  have hu41 := Tryz.underlying41
  have hu34 := Tryz.underlying34
  have HB := Aside0.mk (Below.refl w.heap.size w)
  have H : ((colonnaderef02_CheckType.f a0_0 a0_1).bind fun t215 => (if t215 = 0 then (if a0_2 = true then (if a0_3 = 0 then (if a0_4.toList = ([] : List UInt8) then (some 0) else (some 20)) else (some 20)) else (if a0_0 = 4 then (if a0_3 = 0 then (if (a0_4.size : Int) > 256 then (some 20) else (some 0)) else (some 20)) else (if a0_4.toList = ([] : List UInt8) then (if a0_0 = 1 then (if a0_3 = 0 then (some 0) else (if a0_3 = 1 then (some 0) else (some 20))) else (if a0_0 = 3 then ((colonnaderef01_Fits.f a0_3).bind fun t216 => (if t216 = true then (some 0) else (some 20))) else (if a0_0 = 5 then (if a0_3 < (-719162) then (some 20) else (if a0_3 > 2932896 then (some 20) else (some 0))) else (some 0)))) else (some 20)))) else (some t215))) = some r := h
  clear h
  replace H := Option.bind_eq_some_iff.mp H
  obtain ⟨t215, A20, H⟩ := H
  replace H : (if t215 = 0 then (if a0_2 = true then (if a0_3 = 0 then (if a0_4.toList = ([] : List UInt8) then (some 0) else (some 20)) else (some 20)) else (if a0_0 = 4 then (if a0_3 = 0 then (if (a0_4.size : Int) > 256 then (some 20) else (some 0)) else (some 20)) else (if a0_4.toList = ([] : List UInt8) then (if a0_0 = 1 then (if a0_3 = 0 then (some 0) else (if a0_3 = 1 then (some 0) else (some 20))) else (if a0_0 = 3 then ((colonnaderef01_Fits.f a0_3).bind fun t216 => (if t216 = true then (some 0) else (some 20))) else (if a0_0 = 5 then (if a0_3 < (-719162) then (some 20) else (if a0_3 > 2932896 then (some 20) else (some 0))) else (some 0)))) else (some 20)))) else (some t215)) = some r := H
  have A2 := Aside0.mk A20
  clear A20
  by_cases c3 : t215 = 0
  · rw [if_pos c3] at H
    have c3b0 : (t215 == 0) = true := beq_iff_eq.mpr c3
    have c3b1 : (t215 != 0) = false := bne_eq_false_iff_eq.mpr c3
    clear c3
    by_cases c4 : a0_2 = true
    · subst c4
      have H1 : (if a0_3 = 0 then (if a0_4.toList = ([] : List UInt8) then (some 0) else (some 20)) else (some 20)) = some r := by rw [if_pos rfl] at H; exact H
      clear H
      have H := H1
      clear H1
      by_cases c5 : a0_3 = 0
      · rw [if_pos c5] at H
        have c5b0 : (a0_3 == 0) = true := beq_iff_eq.mpr c5
        have c5b1 : (a0_3 != 0) = false := bne_eq_false_iff_eq.mpr c5
        clear c5
        by_cases c6 : a0_4.toList = ([] : List UInt8)
        · rw [if_pos c6] at H
          have c6b0 : (a0_4.toList == ([] : List UInt8)) = true := beq_iff_eq.mpr c6
          have c6b1 : (a0_4.toList != ([] : List UInt8)) = false := bne_eq_false_iff_eq.mpr c6
          clear c6
          obtain rfl := Option.some.inj H
          go_enter Tryz.func21, Tryz.ntmps21
          go_wp2_with (first | ((with_reducible refine gate_dst (N := 1) rfl ?_); (try (refine gate_guard (by rfl) ?_; dsimp only)); refine box_event ?hg (N := 1) ?hd (cs := #[.int .i64 a0_0, .int .i64 a0_1, .bool true, .int .i64 a0_3, .string a0_4]) (t := 41) ?hr ?_; (case hd => rfl); (case hg => rfl); (case hr => first | (go_simp; done) | (go_simp; rfl)); intro gb214 hg w7 hbox hb; have n0_ := Aside0.mk (below_step (by repeat (first | (with_reducible first | exact HB.out | apply below_alloc | apply pw_below_drewN | apply below_drew1) | exact HB.out)) hb); have n1_ := Aside0.mk (hbox); have n2_ := Aside0.mk ((by rw [hg]; exact (below_size (by repeat (first | (with_reducible first | exact HB.out | apply below_alloc | apply pw_below_drewN | apply below_drew1) | exact HB.out))) : w.heap.size ≤ gb214)); have n3_ := Aside0.mk ((by rw [hg]; exact (below_size (by repeat (first | (with_reducible first | exact HB.out | apply below_alloc | apply pw_below_drewN | apply below_drew1) | exact HB.out))) : w.heap.size ≤ gb214)); clear HB; have HB := n0_; have BK214 := n1_; have GW214 := n2_; have GE214 := n3_; clear n0_ n1_ n2_ n3_; clear hb hbox hg; have hcz8_0 : w7.cell? ⟨gb214, 0, none⟩ = some (.int .i64 a0_0) := (blk_cell BK214.out 0).trans rfl; have hcz8_1 : w7.cell? ⟨gb214, 1, none⟩ = some (.int .i64 a0_1) := (blk_cell BK214.out 1).trans rfl; have hcz8_2 : w7.cell? ⟨gb214, 2, none⟩ = some (.bool true) := (blk_cell BK214.out 2).trans rfl; have hcz8_3 : w7.cell? ⟨gb214, 3, none⟩ = some (.int .i64 a0_3) := (blk_cell BK214.out 3).trans rfl; have hcz8_4 : w7.cell? ⟨gb214, 4, none⟩ = some (.string a0_4) := (blk_cell BK214.out 4).trans rfl; have hfz8_0 := blk_frozen BK214.out 0; have hfz8_1 := blk_frozen BK214.out 1; have hfz8_2 := blk_frozen BK214.out 2; have hfz8_3 := blk_frozen BK214.out 3; have hfz8_4 := blk_frozen BK214.out 4) | ((with_reducible refine gate_callee (f := 54) rfl ?_); refine goesL_ (some 8) rfl rfl Tryz.func54 (by kernel_rfl) rfl #[.agg #[.int .i64 a0_0, .int .i64 a0_1]] rfl (by (try simp only [List.map_toArray, List.map_cons, List.map_nil]); first | done | rfl | (simp only [List.length_drop, List.length_take]; rfl)) ?_; (with_reducible refine (colonnaderef02_CheckType.calls a0_0 a0_1 t215 _ A2.out).mono ?_); rintro e w9 ⟨rfl, hb⟩; refine ⟨_, rfl, ?_⟩; have n0_ := Aside0.mk (blk_below (g := gb214) (o := .cells #[.int .i64 a0_0, .int .i64 a0_1, .bool true, .int .i64 a0_3, .string a0_4] 41 (0, 0)) (by (with_reducible repeat (first | refine blk_drewN ?_ _ | refine blk_drew ?_ | refine blk_alloc ?_ _)); exact BK214.out) hb); have n1_ := Aside0.mk (below_step (by repeat (first | (with_reducible first | exact HB.out | apply below_alloc | apply pw_below_drewN | apply below_drew1 | refine below_set ?_ GE214.out) | exact HB.out)) hb); clear BK214; clear HB; have BK214 := n0_; have HB := n1_; clear n0_ n1_; (try clear hb); (try clear hb2); (try clear hk); (try clear hi); have hcz10_0 : w9.cell? ⟨gb214, 0, none⟩ = some (.int .i64 a0_0) := (blk_cell BK214.out 0).trans rfl; have hcz10_1 : w9.cell? ⟨gb214, 1, none⟩ = some (.int .i64 a0_1) := (blk_cell BK214.out 1).trans rfl; have hcz10_2 : w9.cell? ⟨gb214, 2, none⟩ = some (.bool true) := (blk_cell BK214.out 2).trans rfl; have hcz10_3 : w9.cell? ⟨gb214, 3, none⟩ = some (.int .i64 a0_3) := (blk_cell BK214.out 3).trans rfl; have hcz10_4 : w9.cell? ⟨gb214, 4, none⟩ = some (.string a0_4) := (blk_cell BK214.out 4).trans rfl; have hfz10_0 := blk_frozen BK214.out 0; have hfz10_1 := blk_frozen BK214.out 1; have hfz10_2 := blk_frozen BK214.out 2; have hfz10_3 := blk_frozen BK214.out 3; have hfz10_4 := blk_frozen BK214.out 4))
          go_ret
          exact ⟨by first | rfl | (simp [errW_none, errW_some] <;> rfl) | (simp [*, errW_none, errW_some] <;> rfl), by repeat (first | (with_reducible first | exact HB.out | apply below_alloc | apply pw_below_drewN | apply below_drew1 | refine below_set ?_ GE214.out) | exact HB.out)⟩
        · rw [if_neg c6] at H
          have c6b0 : (a0_4.toList == ([] : List UInt8)) = false := beq_eq_false_iff_ne.mpr c6
          have c6b1 : (a0_4.toList != ([] : List UInt8)) = true := bne_iff_ne.mpr c6
          obtain rfl := Option.some.inj H
          go_enter Tryz.func21, Tryz.ntmps21
          go_wp2_with (first | ((with_reducible refine gate_dst (N := 1) rfl ?_); (try (refine gate_guard (by rfl) ?_; dsimp only)); refine box_event ?hg (N := 1) ?hd (cs := #[.int .i64 a0_0, .int .i64 a0_1, .bool true, .int .i64 a0_3, .string a0_4]) (t := 41) ?hr ?_; (case hd => rfl); (case hg => rfl); (case hr => first | (go_simp; done) | (go_simp; rfl)); intro gb214 hg w11 hbox hb; have n0_ := Aside0.mk (below_step (by repeat (first | (with_reducible first | exact HB.out | apply below_alloc | apply pw_below_drewN | apply below_drew1) | exact HB.out)) hb); have n1_ := Aside0.mk (hbox); have n2_ := Aside0.mk ((by rw [hg]; exact (below_size (by repeat (first | (with_reducible first | exact HB.out | apply below_alloc | apply pw_below_drewN | apply below_drew1) | exact HB.out))) : w.heap.size ≤ gb214)); have n3_ := Aside0.mk ((by rw [hg]; exact (below_size (by repeat (first | (with_reducible first | exact HB.out | apply below_alloc | apply pw_below_drewN | apply below_drew1) | exact HB.out))) : w.heap.size ≤ gb214)); clear HB; have HB := n0_; have BK214 := n1_; have GW214 := n2_; have GE214 := n3_; clear n0_ n1_ n2_ n3_; clear hb hbox hg; have hcz12_0 : w11.cell? ⟨gb214, 0, none⟩ = some (.int .i64 a0_0) := (blk_cell BK214.out 0).trans rfl; have hcz12_1 : w11.cell? ⟨gb214, 1, none⟩ = some (.int .i64 a0_1) := (blk_cell BK214.out 1).trans rfl; have hcz12_2 : w11.cell? ⟨gb214, 2, none⟩ = some (.bool true) := (blk_cell BK214.out 2).trans rfl; have hcz12_3 : w11.cell? ⟨gb214, 3, none⟩ = some (.int .i64 a0_3) := (blk_cell BK214.out 3).trans rfl; have hcz12_4 : w11.cell? ⟨gb214, 4, none⟩ = some (.string a0_4) := (blk_cell BK214.out 4).trans rfl; have hfz12_0 := blk_frozen BK214.out 0; have hfz12_1 := blk_frozen BK214.out 1; have hfz12_2 := blk_frozen BK214.out 2; have hfz12_3 := blk_frozen BK214.out 3; have hfz12_4 := blk_frozen BK214.out 4) | ((with_reducible refine gate_callee (f := 54) rfl ?_); refine goesL_ (some 8) rfl rfl Tryz.func54 (by kernel_rfl) rfl #[.agg #[.int .i64 a0_0, .int .i64 a0_1]] rfl (by (try simp only [List.map_toArray, List.map_cons, List.map_nil]); first | done | rfl | (simp only [List.length_drop, List.length_take]; rfl)) ?_; (with_reducible refine (colonnaderef02_CheckType.calls a0_0 a0_1 t215 _ A2.out).mono ?_); rintro e w13 ⟨rfl, hb⟩; refine ⟨_, rfl, ?_⟩; have n0_ := Aside0.mk (blk_below (g := gb214) (o := .cells #[.int .i64 a0_0, .int .i64 a0_1, .bool true, .int .i64 a0_3, .string a0_4] 41 (0, 0)) (by (with_reducible repeat (first | refine blk_drewN ?_ _ | refine blk_drew ?_ | refine blk_alloc ?_ _)); exact BK214.out) hb); have n1_ := Aside0.mk (below_step (by repeat (first | (with_reducible first | exact HB.out | apply below_alloc | apply pw_below_drewN | apply below_drew1 | refine below_set ?_ GE214.out) | exact HB.out)) hb); clear BK214; clear HB; have BK214 := n0_; have HB := n1_; clear n0_ n1_; (try clear hb); (try clear hb2); (try clear hk); (try clear hi); have hcz14_0 : w13.cell? ⟨gb214, 0, none⟩ = some (.int .i64 a0_0) := (blk_cell BK214.out 0).trans rfl; have hcz14_1 : w13.cell? ⟨gb214, 1, none⟩ = some (.int .i64 a0_1) := (blk_cell BK214.out 1).trans rfl; have hcz14_2 : w13.cell? ⟨gb214, 2, none⟩ = some (.bool true) := (blk_cell BK214.out 2).trans rfl; have hcz14_3 : w13.cell? ⟨gb214, 3, none⟩ = some (.int .i64 a0_3) := (blk_cell BK214.out 3).trans rfl; have hcz14_4 : w13.cell? ⟨gb214, 4, none⟩ = some (.string a0_4) := (blk_cell BK214.out 4).trans rfl; have hfz14_0 := blk_frozen BK214.out 0; have hfz14_1 := blk_frozen BK214.out 1; have hfz14_2 := blk_frozen BK214.out 2; have hfz14_3 := blk_frozen BK214.out 3; have hfz14_4 := blk_frozen BK214.out 4))
          go_ret
          exact ⟨by first | rfl | (simp [errW_none, errW_some] <;> rfl) | (simp [*, errW_none, errW_some] <;> rfl), by repeat (first | (with_reducible first | exact HB.out | apply below_alloc | apply pw_below_drewN | apply below_drew1 | refine below_set ?_ GE214.out) | exact HB.out)⟩
      · rw [if_neg c5] at H
        have c5b0 : (a0_3 == 0) = false := beq_eq_false_iff_ne.mpr c5
        have c5b1 : (a0_3 != 0) = true := bne_iff_ne.mpr c5
        obtain rfl := Option.some.inj H
        go_enter Tryz.func21, Tryz.ntmps21
        go_wp2_with (first | ((with_reducible refine gate_dst (N := 1) rfl ?_); (try (refine gate_guard (by rfl) ?_; dsimp only)); refine box_event ?hg (N := 1) ?hd (cs := #[.int .i64 a0_0, .int .i64 a0_1, .bool true, .int .i64 a0_3, .string a0_4]) (t := 41) ?hr ?_; (case hd => rfl); (case hg => rfl); (case hr => first | (go_simp; done) | (go_simp; rfl)); intro gb214 hg w15 hbox hb; have n0_ := Aside0.mk (below_step (by repeat (first | (with_reducible first | exact HB.out | apply below_alloc | apply pw_below_drewN | apply below_drew1) | exact HB.out)) hb); have n1_ := Aside0.mk (hbox); have n2_ := Aside0.mk ((by rw [hg]; exact (below_size (by repeat (first | (with_reducible first | exact HB.out | apply below_alloc | apply pw_below_drewN | apply below_drew1) | exact HB.out))) : w.heap.size ≤ gb214)); have n3_ := Aside0.mk ((by rw [hg]; exact (below_size (by repeat (first | (with_reducible first | exact HB.out | apply below_alloc | apply pw_below_drewN | apply below_drew1) | exact HB.out))) : w.heap.size ≤ gb214)); clear HB; have HB := n0_; have BK214 := n1_; have GW214 := n2_; have GE214 := n3_; clear n0_ n1_ n2_ n3_; clear hb hbox hg; have hcz16_0 : w15.cell? ⟨gb214, 0, none⟩ = some (.int .i64 a0_0) := (blk_cell BK214.out 0).trans rfl; have hcz16_1 : w15.cell? ⟨gb214, 1, none⟩ = some (.int .i64 a0_1) := (blk_cell BK214.out 1).trans rfl; have hcz16_2 : w15.cell? ⟨gb214, 2, none⟩ = some (.bool true) := (blk_cell BK214.out 2).trans rfl; have hcz16_3 : w15.cell? ⟨gb214, 3, none⟩ = some (.int .i64 a0_3) := (blk_cell BK214.out 3).trans rfl; have hcz16_4 : w15.cell? ⟨gb214, 4, none⟩ = some (.string a0_4) := (blk_cell BK214.out 4).trans rfl; have hfz16_0 := blk_frozen BK214.out 0; have hfz16_1 := blk_frozen BK214.out 1; have hfz16_2 := blk_frozen BK214.out 2; have hfz16_3 := blk_frozen BK214.out 3; have hfz16_4 := blk_frozen BK214.out 4) | ((with_reducible refine gate_callee (f := 54) rfl ?_); refine goesL_ (some 8) rfl rfl Tryz.func54 (by kernel_rfl) rfl #[.agg #[.int .i64 a0_0, .int .i64 a0_1]] rfl (by (try simp only [List.map_toArray, List.map_cons, List.map_nil]); first | done | rfl | (simp only [List.length_drop, List.length_take]; rfl)) ?_; (with_reducible refine (colonnaderef02_CheckType.calls a0_0 a0_1 t215 _ A2.out).mono ?_); rintro e w17 ⟨rfl, hb⟩; refine ⟨_, rfl, ?_⟩; have n0_ := Aside0.mk (blk_below (g := gb214) (o := .cells #[.int .i64 a0_0, .int .i64 a0_1, .bool true, .int .i64 a0_3, .string a0_4] 41 (0, 0)) (by (with_reducible repeat (first | refine blk_drewN ?_ _ | refine blk_drew ?_ | refine blk_alloc ?_ _)); exact BK214.out) hb); have n1_ := Aside0.mk (below_step (by repeat (first | (with_reducible first | exact HB.out | apply below_alloc | apply pw_below_drewN | apply below_drew1 | refine below_set ?_ GE214.out) | exact HB.out)) hb); clear BK214; clear HB; have BK214 := n0_; have HB := n1_; clear n0_ n1_; (try clear hb); (try clear hb2); (try clear hk); (try clear hi); have hcz18_0 : w17.cell? ⟨gb214, 0, none⟩ = some (.int .i64 a0_0) := (blk_cell BK214.out 0).trans rfl; have hcz18_1 : w17.cell? ⟨gb214, 1, none⟩ = some (.int .i64 a0_1) := (blk_cell BK214.out 1).trans rfl; have hcz18_2 : w17.cell? ⟨gb214, 2, none⟩ = some (.bool true) := (blk_cell BK214.out 2).trans rfl; have hcz18_3 : w17.cell? ⟨gb214, 3, none⟩ = some (.int .i64 a0_3) := (blk_cell BK214.out 3).trans rfl; have hcz18_4 : w17.cell? ⟨gb214, 4, none⟩ = some (.string a0_4) := (blk_cell BK214.out 4).trans rfl; have hfz18_0 := blk_frozen BK214.out 0; have hfz18_1 := blk_frozen BK214.out 1; have hfz18_2 := blk_frozen BK214.out 2; have hfz18_3 := blk_frozen BK214.out 3; have hfz18_4 := blk_frozen BK214.out 4))
        go_ret
        exact ⟨by first | rfl | (simp [errW_none, errW_some] <;> rfl) | (simp [*, errW_none, errW_some] <;> rfl), by repeat (first | (with_reducible first | exact HB.out | apply below_alloc | apply pw_below_drewN | apply below_drew1 | refine below_set ?_ GE214.out) | exact HB.out)⟩
    · replace c4 := Bool.eq_false_iff.mpr c4
      subst c4
      have H1 : (if a0_0 = 4 then (if a0_3 = 0 then (if (a0_4.size : Int) > 256 then (some 20) else (some 0)) else (some 20)) else (if a0_4.toList = ([] : List UInt8) then (if a0_0 = 1 then (if a0_3 = 0 then (some 0) else (if a0_3 = 1 then (some 0) else (some 20))) else (if a0_0 = 3 then ((colonnaderef01_Fits.f a0_3).bind fun t216 => (if t216 = true then (some 0) else (some 20))) else (if a0_0 = 5 then (if a0_3 < (-719162) then (some 20) else (if a0_3 > 2932896 then (some 20) else (some 0))) else (some 0)))) else (some 20))) = some r := by rw [if_neg (show ¬ (false = true) by decide)] at H; exact H
      clear H
      have H := H1
      clear H1
      by_cases c19 : a0_0 = 4
      · rw [if_pos c19] at H
        have c19b0 : (a0_0 == 4) = true := beq_iff_eq.mpr c19
        have c19b1 : (a0_0 != 4) = false := bne_eq_false_iff_eq.mpr c19
        clear c19
        by_cases c20 : a0_3 = 0
        · rw [if_pos c20] at H
          have c20b0 : (a0_3 == 0) = true := beq_iff_eq.mpr c20
          have c20b1 : (a0_3 != 0) = false := bne_eq_false_iff_eq.mpr c20
          clear c20
          by_cases c21 : (a0_4.size : Int) > 256
          · rw [if_pos c21] at H
            have c21b0 : decide (256 < (a0_4.size : Int)) = true := decide_eq_true c21
            have c21b1 : decide (256 < a0_4.size) = true := decide_eq_true (by omega)
            clear c21
            obtain rfl := Option.some.inj H
            go_enter Tryz.func21, Tryz.ntmps21
            go_wp2_with (first | ((with_reducible refine gate_dst (N := 1) rfl ?_); (try (refine gate_guard (by rfl) ?_; dsimp only)); refine box_event ?hg (N := 1) ?hd (cs := #[.int .i64 a0_0, .int .i64 a0_1, .bool false, .int .i64 a0_3, .string a0_4]) (t := 41) ?hr ?_; (case hd => rfl); (case hg => rfl); (case hr => first | (go_simp; done) | (go_simp; rfl)); intro gb214 hg w22 hbox hb; have n0_ := Aside0.mk (below_step (by repeat (first | (with_reducible first | exact HB.out | apply below_alloc | apply pw_below_drewN | apply below_drew1) | exact HB.out)) hb); have n1_ := Aside0.mk (hbox); have n2_ := Aside0.mk ((by rw [hg]; exact (below_size (by repeat (first | (with_reducible first | exact HB.out | apply below_alloc | apply pw_below_drewN | apply below_drew1) | exact HB.out))) : w.heap.size ≤ gb214)); have n3_ := Aside0.mk ((by rw [hg]; exact (below_size (by repeat (first | (with_reducible first | exact HB.out | apply below_alloc | apply pw_below_drewN | apply below_drew1) | exact HB.out))) : w.heap.size ≤ gb214)); clear HB; have HB := n0_; have BK214 := n1_; have GW214 := n2_; have GE214 := n3_; clear n0_ n1_ n2_ n3_; clear hb hbox hg; have hcz23_0 : w22.cell? ⟨gb214, 0, none⟩ = some (.int .i64 a0_0) := (blk_cell BK214.out 0).trans rfl; have hcz23_1 : w22.cell? ⟨gb214, 1, none⟩ = some (.int .i64 a0_1) := (blk_cell BK214.out 1).trans rfl; have hcz23_2 : w22.cell? ⟨gb214, 2, none⟩ = some (.bool false) := (blk_cell BK214.out 2).trans rfl; have hcz23_3 : w22.cell? ⟨gb214, 3, none⟩ = some (.int .i64 a0_3) := (blk_cell BK214.out 3).trans rfl; have hcz23_4 : w22.cell? ⟨gb214, 4, none⟩ = some (.string a0_4) := (blk_cell BK214.out 4).trans rfl; have hfz23_0 := blk_frozen BK214.out 0; have hfz23_1 := blk_frozen BK214.out 1; have hfz23_2 := blk_frozen BK214.out 2; have hfz23_3 := blk_frozen BK214.out 3; have hfz23_4 := blk_frozen BK214.out 4) | ((with_reducible refine gate_callee (f := 54) rfl ?_); refine goesL_ (some 8) rfl rfl Tryz.func54 (by kernel_rfl) rfl #[.agg #[.int .i64 a0_0, .int .i64 a0_1]] rfl (by (try simp only [List.map_toArray, List.map_cons, List.map_nil]); first | done | rfl | (simp only [List.length_drop, List.length_take]; rfl)) ?_; (with_reducible refine (colonnaderef02_CheckType.calls a0_0 a0_1 t215 _ A2.out).mono ?_); rintro e w24 ⟨rfl, hb⟩; refine ⟨_, rfl, ?_⟩; have n0_ := Aside0.mk (blk_below (g := gb214) (o := .cells #[.int .i64 a0_0, .int .i64 a0_1, .bool false, .int .i64 a0_3, .string a0_4] 41 (0, 0)) (by (with_reducible repeat (first | refine blk_drewN ?_ _ | refine blk_drew ?_ | refine blk_alloc ?_ _)); exact BK214.out) hb); have n1_ := Aside0.mk (below_step (by repeat (first | (with_reducible first | exact HB.out | apply below_alloc | apply pw_below_drewN | apply below_drew1 | refine below_set ?_ GE214.out) | exact HB.out)) hb); clear BK214; clear HB; have BK214 := n0_; have HB := n1_; clear n0_ n1_; (try clear hb); (try clear hb2); (try clear hk); (try clear hi); have hcz25_0 : w24.cell? ⟨gb214, 0, none⟩ = some (.int .i64 a0_0) := (blk_cell BK214.out 0).trans rfl; have hcz25_1 : w24.cell? ⟨gb214, 1, none⟩ = some (.int .i64 a0_1) := (blk_cell BK214.out 1).trans rfl; have hcz25_2 : w24.cell? ⟨gb214, 2, none⟩ = some (.bool false) := (blk_cell BK214.out 2).trans rfl; have hcz25_3 : w24.cell? ⟨gb214, 3, none⟩ = some (.int .i64 a0_3) := (blk_cell BK214.out 3).trans rfl; have hcz25_4 : w24.cell? ⟨gb214, 4, none⟩ = some (.string a0_4) := (blk_cell BK214.out 4).trans rfl; have hfz25_0 := blk_frozen BK214.out 0; have hfz25_1 := blk_frozen BK214.out 1; have hfz25_2 := blk_frozen BK214.out 2; have hfz25_3 := blk_frozen BK214.out 3; have hfz25_4 := blk_frozen BK214.out 4))
            go_ret
            exact ⟨by first | rfl | (simp [errW_none, errW_some] <;> rfl) | (simp [*, errW_none, errW_some] <;> rfl), by repeat (first | (with_reducible first | exact HB.out | apply below_alloc | apply pw_below_drewN | apply below_drew1 | refine below_set ?_ GE214.out) | exact HB.out)⟩
          · rw [if_neg c21] at H
            have c21b0 : decide (256 < (a0_4.size : Int)) = false := decide_eq_false c21
            have c21b1 : decide (256 < a0_4.size) = false := decide_eq_false (by omega)
            clear c21
            obtain rfl := Option.some.inj H
            go_enter Tryz.func21, Tryz.ntmps21
            go_wp2_with (first | ((with_reducible refine gate_dst (N := 1) rfl ?_); (try (refine gate_guard (by rfl) ?_; dsimp only)); refine box_event ?hg (N := 1) ?hd (cs := #[.int .i64 a0_0, .int .i64 a0_1, .bool false, .int .i64 a0_3, .string a0_4]) (t := 41) ?hr ?_; (case hd => rfl); (case hg => rfl); (case hr => first | (go_simp; done) | (go_simp; rfl)); intro gb214 hg w26 hbox hb; have n0_ := Aside0.mk (below_step (by repeat (first | (with_reducible first | exact HB.out | apply below_alloc | apply pw_below_drewN | apply below_drew1) | exact HB.out)) hb); have n1_ := Aside0.mk (hbox); have n2_ := Aside0.mk ((by rw [hg]; exact (below_size (by repeat (first | (with_reducible first | exact HB.out | apply below_alloc | apply pw_below_drewN | apply below_drew1) | exact HB.out))) : w.heap.size ≤ gb214)); have n3_ := Aside0.mk ((by rw [hg]; exact (below_size (by repeat (first | (with_reducible first | exact HB.out | apply below_alloc | apply pw_below_drewN | apply below_drew1) | exact HB.out))) : w.heap.size ≤ gb214)); clear HB; have HB := n0_; have BK214 := n1_; have GW214 := n2_; have GE214 := n3_; clear n0_ n1_ n2_ n3_; clear hb hbox hg; have hcz27_0 : w26.cell? ⟨gb214, 0, none⟩ = some (.int .i64 a0_0) := (blk_cell BK214.out 0).trans rfl; have hcz27_1 : w26.cell? ⟨gb214, 1, none⟩ = some (.int .i64 a0_1) := (blk_cell BK214.out 1).trans rfl; have hcz27_2 : w26.cell? ⟨gb214, 2, none⟩ = some (.bool false) := (blk_cell BK214.out 2).trans rfl; have hcz27_3 : w26.cell? ⟨gb214, 3, none⟩ = some (.int .i64 a0_3) := (blk_cell BK214.out 3).trans rfl; have hcz27_4 : w26.cell? ⟨gb214, 4, none⟩ = some (.string a0_4) := (blk_cell BK214.out 4).trans rfl; have hfz27_0 := blk_frozen BK214.out 0; have hfz27_1 := blk_frozen BK214.out 1; have hfz27_2 := blk_frozen BK214.out 2; have hfz27_3 := blk_frozen BK214.out 3; have hfz27_4 := blk_frozen BK214.out 4) | ((with_reducible refine gate_callee (f := 54) rfl ?_); refine goesL_ (some 8) rfl rfl Tryz.func54 (by kernel_rfl) rfl #[.agg #[.int .i64 a0_0, .int .i64 a0_1]] rfl (by (try simp only [List.map_toArray, List.map_cons, List.map_nil]); first | done | rfl | (simp only [List.length_drop, List.length_take]; rfl)) ?_; (with_reducible refine (colonnaderef02_CheckType.calls a0_0 a0_1 t215 _ A2.out).mono ?_); rintro e w28 ⟨rfl, hb⟩; refine ⟨_, rfl, ?_⟩; have n0_ := Aside0.mk (blk_below (g := gb214) (o := .cells #[.int .i64 a0_0, .int .i64 a0_1, .bool false, .int .i64 a0_3, .string a0_4] 41 (0, 0)) (by (with_reducible repeat (first | refine blk_drewN ?_ _ | refine blk_drew ?_ | refine blk_alloc ?_ _)); exact BK214.out) hb); have n1_ := Aside0.mk (below_step (by repeat (first | (with_reducible first | exact HB.out | apply below_alloc | apply pw_below_drewN | apply below_drew1 | refine below_set ?_ GE214.out) | exact HB.out)) hb); clear BK214; clear HB; have BK214 := n0_; have HB := n1_; clear n0_ n1_; (try clear hb); (try clear hb2); (try clear hk); (try clear hi); have hcz29_0 : w28.cell? ⟨gb214, 0, none⟩ = some (.int .i64 a0_0) := (blk_cell BK214.out 0).trans rfl; have hcz29_1 : w28.cell? ⟨gb214, 1, none⟩ = some (.int .i64 a0_1) := (blk_cell BK214.out 1).trans rfl; have hcz29_2 : w28.cell? ⟨gb214, 2, none⟩ = some (.bool false) := (blk_cell BK214.out 2).trans rfl; have hcz29_3 : w28.cell? ⟨gb214, 3, none⟩ = some (.int .i64 a0_3) := (blk_cell BK214.out 3).trans rfl; have hcz29_4 : w28.cell? ⟨gb214, 4, none⟩ = some (.string a0_4) := (blk_cell BK214.out 4).trans rfl; have hfz29_0 := blk_frozen BK214.out 0; have hfz29_1 := blk_frozen BK214.out 1; have hfz29_2 := blk_frozen BK214.out 2; have hfz29_3 := blk_frozen BK214.out 3; have hfz29_4 := blk_frozen BK214.out 4))
            go_ret
            exact ⟨by first | rfl | (simp [errW_none, errW_some] <;> rfl) | (simp [*, errW_none, errW_some] <;> rfl), by repeat (first | (with_reducible first | exact HB.out | apply below_alloc | apply pw_below_drewN | apply below_drew1 | refine below_set ?_ GE214.out) | exact HB.out)⟩
        · rw [if_neg c20] at H
          have c20b0 : (a0_3 == 0) = false := beq_eq_false_iff_ne.mpr c20
          have c20b1 : (a0_3 != 0) = true := bne_iff_ne.mpr c20
          obtain rfl := Option.some.inj H
          go_enter Tryz.func21, Tryz.ntmps21
          go_wp2_with (first | ((with_reducible refine gate_dst (N := 1) rfl ?_); (try (refine gate_guard (by rfl) ?_; dsimp only)); refine box_event ?hg (N := 1) ?hd (cs := #[.int .i64 a0_0, .int .i64 a0_1, .bool false, .int .i64 a0_3, .string a0_4]) (t := 41) ?hr ?_; (case hd => rfl); (case hg => rfl); (case hr => first | (go_simp; done) | (go_simp; rfl)); intro gb214 hg w30 hbox hb; have n0_ := Aside0.mk (below_step (by repeat (first | (with_reducible first | exact HB.out | apply below_alloc | apply pw_below_drewN | apply below_drew1) | exact HB.out)) hb); have n1_ := Aside0.mk (hbox); have n2_ := Aside0.mk ((by rw [hg]; exact (below_size (by repeat (first | (with_reducible first | exact HB.out | apply below_alloc | apply pw_below_drewN | apply below_drew1) | exact HB.out))) : w.heap.size ≤ gb214)); have n3_ := Aside0.mk ((by rw [hg]; exact (below_size (by repeat (first | (with_reducible first | exact HB.out | apply below_alloc | apply pw_below_drewN | apply below_drew1) | exact HB.out))) : w.heap.size ≤ gb214)); clear HB; have HB := n0_; have BK214 := n1_; have GW214 := n2_; have GE214 := n3_; clear n0_ n1_ n2_ n3_; clear hb hbox hg; have hcz31_0 : w30.cell? ⟨gb214, 0, none⟩ = some (.int .i64 a0_0) := (blk_cell BK214.out 0).trans rfl; have hcz31_1 : w30.cell? ⟨gb214, 1, none⟩ = some (.int .i64 a0_1) := (blk_cell BK214.out 1).trans rfl; have hcz31_2 : w30.cell? ⟨gb214, 2, none⟩ = some (.bool false) := (blk_cell BK214.out 2).trans rfl; have hcz31_3 : w30.cell? ⟨gb214, 3, none⟩ = some (.int .i64 a0_3) := (blk_cell BK214.out 3).trans rfl; have hcz31_4 : w30.cell? ⟨gb214, 4, none⟩ = some (.string a0_4) := (blk_cell BK214.out 4).trans rfl; have hfz31_0 := blk_frozen BK214.out 0; have hfz31_1 := blk_frozen BK214.out 1; have hfz31_2 := blk_frozen BK214.out 2; have hfz31_3 := blk_frozen BK214.out 3; have hfz31_4 := blk_frozen BK214.out 4) | ((with_reducible refine gate_callee (f := 54) rfl ?_); refine goesL_ (some 8) rfl rfl Tryz.func54 (by kernel_rfl) rfl #[.agg #[.int .i64 a0_0, .int .i64 a0_1]] rfl (by (try simp only [List.map_toArray, List.map_cons, List.map_nil]); first | done | rfl | (simp only [List.length_drop, List.length_take]; rfl)) ?_; (with_reducible refine (colonnaderef02_CheckType.calls a0_0 a0_1 t215 _ A2.out).mono ?_); rintro e w32 ⟨rfl, hb⟩; refine ⟨_, rfl, ?_⟩; have n0_ := Aside0.mk (blk_below (g := gb214) (o := .cells #[.int .i64 a0_0, .int .i64 a0_1, .bool false, .int .i64 a0_3, .string a0_4] 41 (0, 0)) (by (with_reducible repeat (first | refine blk_drewN ?_ _ | refine blk_drew ?_ | refine blk_alloc ?_ _)); exact BK214.out) hb); have n1_ := Aside0.mk (below_step (by repeat (first | (with_reducible first | exact HB.out | apply below_alloc | apply pw_below_drewN | apply below_drew1 | refine below_set ?_ GE214.out) | exact HB.out)) hb); clear BK214; clear HB; have BK214 := n0_; have HB := n1_; clear n0_ n1_; (try clear hb); (try clear hb2); (try clear hk); (try clear hi); have hcz33_0 : w32.cell? ⟨gb214, 0, none⟩ = some (.int .i64 a0_0) := (blk_cell BK214.out 0).trans rfl; have hcz33_1 : w32.cell? ⟨gb214, 1, none⟩ = some (.int .i64 a0_1) := (blk_cell BK214.out 1).trans rfl; have hcz33_2 : w32.cell? ⟨gb214, 2, none⟩ = some (.bool false) := (blk_cell BK214.out 2).trans rfl; have hcz33_3 : w32.cell? ⟨gb214, 3, none⟩ = some (.int .i64 a0_3) := (blk_cell BK214.out 3).trans rfl; have hcz33_4 : w32.cell? ⟨gb214, 4, none⟩ = some (.string a0_4) := (blk_cell BK214.out 4).trans rfl; have hfz33_0 := blk_frozen BK214.out 0; have hfz33_1 := blk_frozen BK214.out 1; have hfz33_2 := blk_frozen BK214.out 2; have hfz33_3 := blk_frozen BK214.out 3; have hfz33_4 := blk_frozen BK214.out 4))
          go_ret
          exact ⟨by first | rfl | (simp [errW_none, errW_some] <;> rfl) | (simp [*, errW_none, errW_some] <;> rfl), by repeat (first | (with_reducible first | exact HB.out | apply below_alloc | apply pw_below_drewN | apply below_drew1 | refine below_set ?_ GE214.out) | exact HB.out)⟩
      · rw [if_neg c19] at H
        have c19b0 : (a0_0 == 4) = false := beq_eq_false_iff_ne.mpr c19
        have c19b1 : (a0_0 != 4) = true := bne_iff_ne.mpr c19
        by_cases c34 : a0_4.toList = ([] : List UInt8)
        · rw [if_pos c34] at H
          have c34b0 : (a0_4.toList == ([] : List UInt8)) = true := beq_iff_eq.mpr c34
          have c34b1 : (a0_4.toList != ([] : List UInt8)) = false := bne_eq_false_iff_eq.mpr c34
          clear c34
          by_cases c35 : a0_0 = 1
          · rw [if_pos c35] at H
            have c35b0 : (a0_0 == 1) = true := beq_iff_eq.mpr c35
            have c35b1 : (a0_0 != 1) = false := bne_eq_false_iff_eq.mpr c35
            clear c35
            by_cases c36 : a0_3 = 0
            · rw [if_pos c36] at H
              have c36b0 : (a0_3 == 0) = true := beq_iff_eq.mpr c36
              have c36b1 : (a0_3 != 0) = false := bne_eq_false_iff_eq.mpr c36
              clear c36
              obtain rfl := Option.some.inj H
              go_enter Tryz.func21, Tryz.ntmps21
              go_wp2_with (first | ((with_reducible refine gate_dst (N := 1) rfl ?_); (try (refine gate_guard (by rfl) ?_; dsimp only)); refine box_event ?hg (N := 1) ?hd (cs := #[.int .i64 a0_0, .int .i64 a0_1, .bool false, .int .i64 a0_3, .string a0_4]) (t := 41) ?hr ?_; (case hd => rfl); (case hg => rfl); (case hr => first | (go_simp; done) | (go_simp; rfl)); intro gb214 hg w37 hbox hb; have n0_ := Aside0.mk (below_step (by repeat (first | (with_reducible first | exact HB.out | apply below_alloc | apply pw_below_drewN | apply below_drew1) | exact HB.out)) hb); have n1_ := Aside0.mk (hbox); have n2_ := Aside0.mk ((by rw [hg]; exact (below_size (by repeat (first | (with_reducible first | exact HB.out | apply below_alloc | apply pw_below_drewN | apply below_drew1) | exact HB.out))) : w.heap.size ≤ gb214)); have n3_ := Aside0.mk ((by rw [hg]; exact (below_size (by repeat (first | (with_reducible first | exact HB.out | apply below_alloc | apply pw_below_drewN | apply below_drew1) | exact HB.out))) : w.heap.size ≤ gb214)); clear HB; have HB := n0_; have BK214 := n1_; have GW214 := n2_; have GE214 := n3_; clear n0_ n1_ n2_ n3_; clear hb hbox hg; have hcz38_0 : w37.cell? ⟨gb214, 0, none⟩ = some (.int .i64 a0_0) := (blk_cell BK214.out 0).trans rfl; have hcz38_1 : w37.cell? ⟨gb214, 1, none⟩ = some (.int .i64 a0_1) := (blk_cell BK214.out 1).trans rfl; have hcz38_2 : w37.cell? ⟨gb214, 2, none⟩ = some (.bool false) := (blk_cell BK214.out 2).trans rfl; have hcz38_3 : w37.cell? ⟨gb214, 3, none⟩ = some (.int .i64 a0_3) := (blk_cell BK214.out 3).trans rfl; have hcz38_4 : w37.cell? ⟨gb214, 4, none⟩ = some (.string a0_4) := (blk_cell BK214.out 4).trans rfl; have hfz38_0 := blk_frozen BK214.out 0; have hfz38_1 := blk_frozen BK214.out 1; have hfz38_2 := blk_frozen BK214.out 2; have hfz38_3 := blk_frozen BK214.out 3; have hfz38_4 := blk_frozen BK214.out 4) | ((with_reducible refine gate_callee (f := 54) rfl ?_); refine goesL_ (some 8) rfl rfl Tryz.func54 (by kernel_rfl) rfl #[.agg #[.int .i64 a0_0, .int .i64 a0_1]] rfl (by (try simp only [List.map_toArray, List.map_cons, List.map_nil]); first | done | rfl | (simp only [List.length_drop, List.length_take]; rfl)) ?_; (with_reducible refine (colonnaderef02_CheckType.calls a0_0 a0_1 t215 _ A2.out).mono ?_); rintro e w39 ⟨rfl, hb⟩; refine ⟨_, rfl, ?_⟩; have n0_ := Aside0.mk (blk_below (g := gb214) (o := .cells #[.int .i64 a0_0, .int .i64 a0_1, .bool false, .int .i64 a0_3, .string a0_4] 41 (0, 0)) (by (with_reducible repeat (first | refine blk_drewN ?_ _ | refine blk_drew ?_ | refine blk_alloc ?_ _)); exact BK214.out) hb); have n1_ := Aside0.mk (below_step (by repeat (first | (with_reducible first | exact HB.out | apply below_alloc | apply pw_below_drewN | apply below_drew1 | refine below_set ?_ GE214.out) | exact HB.out)) hb); clear BK214; clear HB; have BK214 := n0_; have HB := n1_; clear n0_ n1_; (try clear hb); (try clear hb2); (try clear hk); (try clear hi); have hcz40_0 : w39.cell? ⟨gb214, 0, none⟩ = some (.int .i64 a0_0) := (blk_cell BK214.out 0).trans rfl; have hcz40_1 : w39.cell? ⟨gb214, 1, none⟩ = some (.int .i64 a0_1) := (blk_cell BK214.out 1).trans rfl; have hcz40_2 : w39.cell? ⟨gb214, 2, none⟩ = some (.bool false) := (blk_cell BK214.out 2).trans rfl; have hcz40_3 : w39.cell? ⟨gb214, 3, none⟩ = some (.int .i64 a0_3) := (blk_cell BK214.out 3).trans rfl; have hcz40_4 : w39.cell? ⟨gb214, 4, none⟩ = some (.string a0_4) := (blk_cell BK214.out 4).trans rfl; have hfz40_0 := blk_frozen BK214.out 0; have hfz40_1 := blk_frozen BK214.out 1; have hfz40_2 := blk_frozen BK214.out 2; have hfz40_3 := blk_frozen BK214.out 3; have hfz40_4 := blk_frozen BK214.out 4))
              go_ret
              exact ⟨by first | rfl | (simp [errW_none, errW_some] <;> rfl) | (simp [*, errW_none, errW_some] <;> rfl), by repeat (first | (with_reducible first | exact HB.out | apply below_alloc | apply pw_below_drewN | apply below_drew1 | refine below_set ?_ GE214.out) | exact HB.out)⟩
            · rw [if_neg c36] at H
              have c36b0 : (a0_3 == 0) = false := beq_eq_false_iff_ne.mpr c36
              have c36b1 : (a0_3 != 0) = true := bne_iff_ne.mpr c36
              by_cases c41 : a0_3 = 1
              · rw [if_pos c41] at H
                have c41b0 : (a0_3 == 1) = true := beq_iff_eq.mpr c41
                have c41b1 : (a0_3 != 1) = false := bne_eq_false_iff_eq.mpr c41
                clear c41
                obtain rfl := Option.some.inj H
                go_enter Tryz.func21, Tryz.ntmps21
                go_wp2_with (first | ((with_reducible refine gate_dst (N := 1) rfl ?_); (try (refine gate_guard (by rfl) ?_; dsimp only)); refine box_event ?hg (N := 1) ?hd (cs := #[.int .i64 a0_0, .int .i64 a0_1, .bool false, .int .i64 a0_3, .string a0_4]) (t := 41) ?hr ?_; (case hd => rfl); (case hg => rfl); (case hr => first | (go_simp; done) | (go_simp; rfl)); intro gb214 hg w42 hbox hb; have n0_ := Aside0.mk (below_step (by repeat (first | (with_reducible first | exact HB.out | apply below_alloc | apply pw_below_drewN | apply below_drew1) | exact HB.out)) hb); have n1_ := Aside0.mk (hbox); have n2_ := Aside0.mk ((by rw [hg]; exact (below_size (by repeat (first | (with_reducible first | exact HB.out | apply below_alloc | apply pw_below_drewN | apply below_drew1) | exact HB.out))) : w.heap.size ≤ gb214)); have n3_ := Aside0.mk ((by rw [hg]; exact (below_size (by repeat (first | (with_reducible first | exact HB.out | apply below_alloc | apply pw_below_drewN | apply below_drew1) | exact HB.out))) : w.heap.size ≤ gb214)); clear HB; have HB := n0_; have BK214 := n1_; have GW214 := n2_; have GE214 := n3_; clear n0_ n1_ n2_ n3_; clear hb hbox hg; have hcz43_0 : w42.cell? ⟨gb214, 0, none⟩ = some (.int .i64 a0_0) := (blk_cell BK214.out 0).trans rfl; have hcz43_1 : w42.cell? ⟨gb214, 1, none⟩ = some (.int .i64 a0_1) := (blk_cell BK214.out 1).trans rfl; have hcz43_2 : w42.cell? ⟨gb214, 2, none⟩ = some (.bool false) := (blk_cell BK214.out 2).trans rfl; have hcz43_3 : w42.cell? ⟨gb214, 3, none⟩ = some (.int .i64 a0_3) := (blk_cell BK214.out 3).trans rfl; have hcz43_4 : w42.cell? ⟨gb214, 4, none⟩ = some (.string a0_4) := (blk_cell BK214.out 4).trans rfl; have hfz43_0 := blk_frozen BK214.out 0; have hfz43_1 := blk_frozen BK214.out 1; have hfz43_2 := blk_frozen BK214.out 2; have hfz43_3 := blk_frozen BK214.out 3; have hfz43_4 := blk_frozen BK214.out 4) | ((with_reducible refine gate_callee (f := 54) rfl ?_); refine goesL_ (some 8) rfl rfl Tryz.func54 (by kernel_rfl) rfl #[.agg #[.int .i64 a0_0, .int .i64 a0_1]] rfl (by (try simp only [List.map_toArray, List.map_cons, List.map_nil]); first | done | rfl | (simp only [List.length_drop, List.length_take]; rfl)) ?_; (with_reducible refine (colonnaderef02_CheckType.calls a0_0 a0_1 t215 _ A2.out).mono ?_); rintro e w44 ⟨rfl, hb⟩; refine ⟨_, rfl, ?_⟩; have n0_ := Aside0.mk (blk_below (g := gb214) (o := .cells #[.int .i64 a0_0, .int .i64 a0_1, .bool false, .int .i64 a0_3, .string a0_4] 41 (0, 0)) (by (with_reducible repeat (first | refine blk_drewN ?_ _ | refine blk_drew ?_ | refine blk_alloc ?_ _)); exact BK214.out) hb); have n1_ := Aside0.mk (below_step (by repeat (first | (with_reducible first | exact HB.out | apply below_alloc | apply pw_below_drewN | apply below_drew1 | refine below_set ?_ GE214.out) | exact HB.out)) hb); clear BK214; clear HB; have BK214 := n0_; have HB := n1_; clear n0_ n1_; (try clear hb); (try clear hb2); (try clear hk); (try clear hi); have hcz45_0 : w44.cell? ⟨gb214, 0, none⟩ = some (.int .i64 a0_0) := (blk_cell BK214.out 0).trans rfl; have hcz45_1 : w44.cell? ⟨gb214, 1, none⟩ = some (.int .i64 a0_1) := (blk_cell BK214.out 1).trans rfl; have hcz45_2 : w44.cell? ⟨gb214, 2, none⟩ = some (.bool false) := (blk_cell BK214.out 2).trans rfl; have hcz45_3 : w44.cell? ⟨gb214, 3, none⟩ = some (.int .i64 a0_3) := (blk_cell BK214.out 3).trans rfl; have hcz45_4 : w44.cell? ⟨gb214, 4, none⟩ = some (.string a0_4) := (blk_cell BK214.out 4).trans rfl; have hfz45_0 := blk_frozen BK214.out 0; have hfz45_1 := blk_frozen BK214.out 1; have hfz45_2 := blk_frozen BK214.out 2; have hfz45_3 := blk_frozen BK214.out 3; have hfz45_4 := blk_frozen BK214.out 4))
                go_ret
                exact ⟨by first | rfl | (simp [errW_none, errW_some] <;> rfl) | (simp [*, errW_none, errW_some] <;> rfl), by repeat (first | (with_reducible first | exact HB.out | apply below_alloc | apply pw_below_drewN | apply below_drew1 | refine below_set ?_ GE214.out) | exact HB.out)⟩
              · rw [if_neg c41] at H
                have c41b0 : (a0_3 == 1) = false := beq_eq_false_iff_ne.mpr c41
                have c41b1 : (a0_3 != 1) = true := bne_iff_ne.mpr c41
                obtain rfl := Option.some.inj H
                go_enter Tryz.func21, Tryz.ntmps21
                go_wp2_with (first | ((with_reducible refine gate_dst (N := 1) rfl ?_); (try (refine gate_guard (by rfl) ?_; dsimp only)); refine box_event ?hg (N := 1) ?hd (cs := #[.int .i64 a0_0, .int .i64 a0_1, .bool false, .int .i64 a0_3, .string a0_4]) (t := 41) ?hr ?_; (case hd => rfl); (case hg => rfl); (case hr => first | (go_simp; done) | (go_simp; rfl)); intro gb214 hg w46 hbox hb; have n0_ := Aside0.mk (below_step (by repeat (first | (with_reducible first | exact HB.out | apply below_alloc | apply pw_below_drewN | apply below_drew1) | exact HB.out)) hb); have n1_ := Aside0.mk (hbox); have n2_ := Aside0.mk ((by rw [hg]; exact (below_size (by repeat (first | (with_reducible first | exact HB.out | apply below_alloc | apply pw_below_drewN | apply below_drew1) | exact HB.out))) : w.heap.size ≤ gb214)); have n3_ := Aside0.mk ((by rw [hg]; exact (below_size (by repeat (first | (with_reducible first | exact HB.out | apply below_alloc | apply pw_below_drewN | apply below_drew1) | exact HB.out))) : w.heap.size ≤ gb214)); clear HB; have HB := n0_; have BK214 := n1_; have GW214 := n2_; have GE214 := n3_; clear n0_ n1_ n2_ n3_; clear hb hbox hg; have hcz47_0 : w46.cell? ⟨gb214, 0, none⟩ = some (.int .i64 a0_0) := (blk_cell BK214.out 0).trans rfl; have hcz47_1 : w46.cell? ⟨gb214, 1, none⟩ = some (.int .i64 a0_1) := (blk_cell BK214.out 1).trans rfl; have hcz47_2 : w46.cell? ⟨gb214, 2, none⟩ = some (.bool false) := (blk_cell BK214.out 2).trans rfl; have hcz47_3 : w46.cell? ⟨gb214, 3, none⟩ = some (.int .i64 a0_3) := (blk_cell BK214.out 3).trans rfl; have hcz47_4 : w46.cell? ⟨gb214, 4, none⟩ = some (.string a0_4) := (blk_cell BK214.out 4).trans rfl; have hfz47_0 := blk_frozen BK214.out 0; have hfz47_1 := blk_frozen BK214.out 1; have hfz47_2 := blk_frozen BK214.out 2; have hfz47_3 := blk_frozen BK214.out 3; have hfz47_4 := blk_frozen BK214.out 4) | ((with_reducible refine gate_callee (f := 54) rfl ?_); refine goesL_ (some 8) rfl rfl Tryz.func54 (by kernel_rfl) rfl #[.agg #[.int .i64 a0_0, .int .i64 a0_1]] rfl (by (try simp only [List.map_toArray, List.map_cons, List.map_nil]); first | done | rfl | (simp only [List.length_drop, List.length_take]; rfl)) ?_; (with_reducible refine (colonnaderef02_CheckType.calls a0_0 a0_1 t215 _ A2.out).mono ?_); rintro e w48 ⟨rfl, hb⟩; refine ⟨_, rfl, ?_⟩; have n0_ := Aside0.mk (blk_below (g := gb214) (o := .cells #[.int .i64 a0_0, .int .i64 a0_1, .bool false, .int .i64 a0_3, .string a0_4] 41 (0, 0)) (by (with_reducible repeat (first | refine blk_drewN ?_ _ | refine blk_drew ?_ | refine blk_alloc ?_ _)); exact BK214.out) hb); have n1_ := Aside0.mk (below_step (by repeat (first | (with_reducible first | exact HB.out | apply below_alloc | apply pw_below_drewN | apply below_drew1 | refine below_set ?_ GE214.out) | exact HB.out)) hb); clear BK214; clear HB; have BK214 := n0_; have HB := n1_; clear n0_ n1_; (try clear hb); (try clear hb2); (try clear hk); (try clear hi); have hcz49_0 : w48.cell? ⟨gb214, 0, none⟩ = some (.int .i64 a0_0) := (blk_cell BK214.out 0).trans rfl; have hcz49_1 : w48.cell? ⟨gb214, 1, none⟩ = some (.int .i64 a0_1) := (blk_cell BK214.out 1).trans rfl; have hcz49_2 : w48.cell? ⟨gb214, 2, none⟩ = some (.bool false) := (blk_cell BK214.out 2).trans rfl; have hcz49_3 : w48.cell? ⟨gb214, 3, none⟩ = some (.int .i64 a0_3) := (blk_cell BK214.out 3).trans rfl; have hcz49_4 : w48.cell? ⟨gb214, 4, none⟩ = some (.string a0_4) := (blk_cell BK214.out 4).trans rfl; have hfz49_0 := blk_frozen BK214.out 0; have hfz49_1 := blk_frozen BK214.out 1; have hfz49_2 := blk_frozen BK214.out 2; have hfz49_3 := blk_frozen BK214.out 3; have hfz49_4 := blk_frozen BK214.out 4))
                go_ret
                exact ⟨by first | rfl | (simp [errW_none, errW_some] <;> rfl) | (simp [*, errW_none, errW_some] <;> rfl), by repeat (first | (with_reducible first | exact HB.out | apply below_alloc | apply pw_below_drewN | apply below_drew1 | refine below_set ?_ GE214.out) | exact HB.out)⟩
          · rw [if_neg c35] at H
            have c35b0 : (a0_0 == 1) = false := beq_eq_false_iff_ne.mpr c35
            have c35b1 : (a0_0 != 1) = true := bne_iff_ne.mpr c35
            by_cases c50 : a0_0 = 3
            · rw [if_pos c50] at H
              have c50b0 : (a0_0 == 3) = true := beq_iff_eq.mpr c50
              have c50b1 : (a0_0 != 3) = false := bne_eq_false_iff_eq.mpr c50
              clear c50
              replace H := Option.bind_eq_some_iff.mp H
              obtain ⟨t216, A510, H⟩ := H
              replace H : (if t216 = true then (some 0) else (some 20)) = some r := H
              have A51 := Aside0.mk A510
              clear A510
              by_cases c52 : t216 = true
              · subst c52
                have H1 : (some 0) = some r := by rw [if_pos rfl] at H; exact H
                clear H
                have H := H1
                clear H1
                obtain rfl := Option.some.inj H
                go_enter Tryz.func21, Tryz.ntmps21
                go_wp2_with (first | ((with_reducible refine gate_dst (N := 1) rfl ?_); (try (refine gate_guard (by rfl) ?_; dsimp only)); refine box_event ?hg (N := 1) ?hd (cs := #[.int .i64 a0_0, .int .i64 a0_1, .bool false, .int .i64 a0_3, .string a0_4]) (t := 41) ?hr ?_; (case hd => rfl); (case hg => rfl); (case hr => first | (go_simp; done) | (go_simp; rfl)); intro gb214 hg w53 hbox hb; have n0_ := Aside0.mk (below_step (by repeat (first | (with_reducible first | exact HB.out | apply below_alloc | apply pw_below_drewN | apply below_drew1) | exact HB.out)) hb); have n1_ := Aside0.mk (hbox); have n2_ := Aside0.mk ((by rw [hg]; exact (below_size (by repeat (first | (with_reducible first | exact HB.out | apply below_alloc | apply pw_below_drewN | apply below_drew1) | exact HB.out))) : w.heap.size ≤ gb214)); have n3_ := Aside0.mk ((by rw [hg]; exact (below_size (by repeat (first | (with_reducible first | exact HB.out | apply below_alloc | apply pw_below_drewN | apply below_drew1) | exact HB.out))) : w.heap.size ≤ gb214)); clear HB; have HB := n0_; have BK214 := n1_; have GW214 := n2_; have GE214 := n3_; clear n0_ n1_ n2_ n3_; clear hb hbox hg; have hcz54_0 : w53.cell? ⟨gb214, 0, none⟩ = some (.int .i64 a0_0) := (blk_cell BK214.out 0).trans rfl; have hcz54_1 : w53.cell? ⟨gb214, 1, none⟩ = some (.int .i64 a0_1) := (blk_cell BK214.out 1).trans rfl; have hcz54_2 : w53.cell? ⟨gb214, 2, none⟩ = some (.bool false) := (blk_cell BK214.out 2).trans rfl; have hcz54_3 : w53.cell? ⟨gb214, 3, none⟩ = some (.int .i64 a0_3) := (blk_cell BK214.out 3).trans rfl; have hcz54_4 : w53.cell? ⟨gb214, 4, none⟩ = some (.string a0_4) := (blk_cell BK214.out 4).trans rfl; have hfz54_0 := blk_frozen BK214.out 0; have hfz54_1 := blk_frozen BK214.out 1; have hfz54_2 := blk_frozen BK214.out 2; have hfz54_3 := blk_frozen BK214.out 3; have hfz54_4 := blk_frozen BK214.out 4) | ((with_reducible refine gate_callee (f := 54) rfl ?_); refine goesL_ (some 8) rfl rfl Tryz.func54 (by kernel_rfl) rfl #[.agg #[.int .i64 a0_0, .int .i64 a0_1]] rfl (by (try simp only [List.map_toArray, List.map_cons, List.map_nil]); first | done | rfl | (simp only [List.length_drop, List.length_take]; rfl)) ?_; (with_reducible refine (colonnaderef02_CheckType.calls a0_0 a0_1 t215 _ A2.out).mono ?_); rintro e w55 ⟨rfl, hb⟩; refine ⟨_, rfl, ?_⟩; have n0_ := Aside0.mk (blk_below (g := gb214) (o := .cells #[.int .i64 a0_0, .int .i64 a0_1, .bool false, .int .i64 a0_3, .string a0_4] 41 (0, 0)) (by (with_reducible repeat (first | refine blk_drewN ?_ _ | refine blk_drew ?_ | refine blk_alloc ?_ _)); exact BK214.out) hb); have n1_ := Aside0.mk (below_step (by repeat (first | (with_reducible first | exact HB.out | apply below_alloc | apply pw_below_drewN | apply below_drew1 | refine below_set ?_ GE214.out) | exact HB.out)) hb); clear BK214; clear HB; have BK214 := n0_; have HB := n1_; clear n0_ n1_; (try clear hb); (try clear hb2); (try clear hk); (try clear hi); have hcz56_0 : w55.cell? ⟨gb214, 0, none⟩ = some (.int .i64 a0_0) := (blk_cell BK214.out 0).trans rfl; have hcz56_1 : w55.cell? ⟨gb214, 1, none⟩ = some (.int .i64 a0_1) := (blk_cell BK214.out 1).trans rfl; have hcz56_2 : w55.cell? ⟨gb214, 2, none⟩ = some (.bool false) := (blk_cell BK214.out 2).trans rfl; have hcz56_3 : w55.cell? ⟨gb214, 3, none⟩ = some (.int .i64 a0_3) := (blk_cell BK214.out 3).trans rfl; have hcz56_4 : w55.cell? ⟨gb214, 4, none⟩ = some (.string a0_4) := (blk_cell BK214.out 4).trans rfl; have hfz56_0 := blk_frozen BK214.out 0; have hfz56_1 := blk_frozen BK214.out 1; have hfz56_2 := blk_frozen BK214.out 2; have hfz56_3 := blk_frozen BK214.out 3; have hfz56_4 := blk_frozen BK214.out 4) | ((with_reducible refine gate_callee (f := 55) rfl ?_); refine goesL_ (some 58) rfl rfl Tryz.func55 (by kernel_rfl) rfl #[.int .i64 a0_3] rfl (by (try simp only [List.map_toArray, List.map_cons, List.map_nil]); first | done | rfl | (simp only [List.length_drop, List.length_take]; rfl)) ?_; (with_reducible refine (colonnaderef01_Fits.calls a0_3 true _ A51.out).mono ?_); rintro e w' ⟨rfl, ⟨nd, rfl⟩⟩; refine ⟨_, rfl, ?_⟩))
                go_ret
                exact ⟨by first | rfl | (simp [errW_none, errW_some] <;> rfl) | (simp [*, errW_none, errW_some] <;> rfl), by repeat (first | (with_reducible first | exact HB.out | apply below_alloc | apply pw_below_drewN | apply below_drew1 | refine below_set ?_ GE214.out) | exact HB.out)⟩
              · replace c52 := Bool.eq_false_iff.mpr c52
                subst c52
                have H1 : (some 20) = some r := by rw [if_neg (show ¬ (false = true) by decide)] at H; exact H
                clear H
                have H := H1
                clear H1
                obtain rfl := Option.some.inj H
                go_enter Tryz.func21, Tryz.ntmps21
                go_wp2_with (first | ((with_reducible refine gate_dst (N := 1) rfl ?_); (try (refine gate_guard (by rfl) ?_; dsimp only)); refine box_event ?hg (N := 1) ?hd (cs := #[.int .i64 a0_0, .int .i64 a0_1, .bool false, .int .i64 a0_3, .string a0_4]) (t := 41) ?hr ?_; (case hd => rfl); (case hg => rfl); (case hr => first | (go_simp; done) | (go_simp; rfl)); intro gb214 hg w57 hbox hb; have n0_ := Aside0.mk (below_step (by repeat (first | (with_reducible first | exact HB.out | apply below_alloc | apply pw_below_drewN | apply below_drew1) | exact HB.out)) hb); have n1_ := Aside0.mk (hbox); have n2_ := Aside0.mk ((by rw [hg]; exact (below_size (by repeat (first | (with_reducible first | exact HB.out | apply below_alloc | apply pw_below_drewN | apply below_drew1) | exact HB.out))) : w.heap.size ≤ gb214)); have n3_ := Aside0.mk ((by rw [hg]; exact (below_size (by repeat (first | (with_reducible first | exact HB.out | apply below_alloc | apply pw_below_drewN | apply below_drew1) | exact HB.out))) : w.heap.size ≤ gb214)); clear HB; have HB := n0_; have BK214 := n1_; have GW214 := n2_; have GE214 := n3_; clear n0_ n1_ n2_ n3_; clear hb hbox hg; have hcz58_0 : w57.cell? ⟨gb214, 0, none⟩ = some (.int .i64 a0_0) := (blk_cell BK214.out 0).trans rfl; have hcz58_1 : w57.cell? ⟨gb214, 1, none⟩ = some (.int .i64 a0_1) := (blk_cell BK214.out 1).trans rfl; have hcz58_2 : w57.cell? ⟨gb214, 2, none⟩ = some (.bool false) := (blk_cell BK214.out 2).trans rfl; have hcz58_3 : w57.cell? ⟨gb214, 3, none⟩ = some (.int .i64 a0_3) := (blk_cell BK214.out 3).trans rfl; have hcz58_4 : w57.cell? ⟨gb214, 4, none⟩ = some (.string a0_4) := (blk_cell BK214.out 4).trans rfl; have hfz58_0 := blk_frozen BK214.out 0; have hfz58_1 := blk_frozen BK214.out 1; have hfz58_2 := blk_frozen BK214.out 2; have hfz58_3 := blk_frozen BK214.out 3; have hfz58_4 := blk_frozen BK214.out 4) | ((with_reducible refine gate_callee (f := 54) rfl ?_); refine goesL_ (some 8) rfl rfl Tryz.func54 (by kernel_rfl) rfl #[.agg #[.int .i64 a0_0, .int .i64 a0_1]] rfl (by (try simp only [List.map_toArray, List.map_cons, List.map_nil]); first | done | rfl | (simp only [List.length_drop, List.length_take]; rfl)) ?_; (with_reducible refine (colonnaderef02_CheckType.calls a0_0 a0_1 t215 _ A2.out).mono ?_); rintro e w59 ⟨rfl, hb⟩; refine ⟨_, rfl, ?_⟩; have n0_ := Aside0.mk (blk_below (g := gb214) (o := .cells #[.int .i64 a0_0, .int .i64 a0_1, .bool false, .int .i64 a0_3, .string a0_4] 41 (0, 0)) (by (with_reducible repeat (first | refine blk_drewN ?_ _ | refine blk_drew ?_ | refine blk_alloc ?_ _)); exact BK214.out) hb); have n1_ := Aside0.mk (below_step (by repeat (first | (with_reducible first | exact HB.out | apply below_alloc | apply pw_below_drewN | apply below_drew1 | refine below_set ?_ GE214.out) | exact HB.out)) hb); clear BK214; clear HB; have BK214 := n0_; have HB := n1_; clear n0_ n1_; (try clear hb); (try clear hb2); (try clear hk); (try clear hi); have hcz60_0 : w59.cell? ⟨gb214, 0, none⟩ = some (.int .i64 a0_0) := (blk_cell BK214.out 0).trans rfl; have hcz60_1 : w59.cell? ⟨gb214, 1, none⟩ = some (.int .i64 a0_1) := (blk_cell BK214.out 1).trans rfl; have hcz60_2 : w59.cell? ⟨gb214, 2, none⟩ = some (.bool false) := (blk_cell BK214.out 2).trans rfl; have hcz60_3 : w59.cell? ⟨gb214, 3, none⟩ = some (.int .i64 a0_3) := (blk_cell BK214.out 3).trans rfl; have hcz60_4 : w59.cell? ⟨gb214, 4, none⟩ = some (.string a0_4) := (blk_cell BK214.out 4).trans rfl; have hfz60_0 := blk_frozen BK214.out 0; have hfz60_1 := blk_frozen BK214.out 1; have hfz60_2 := blk_frozen BK214.out 2; have hfz60_3 := blk_frozen BK214.out 3; have hfz60_4 := blk_frozen BK214.out 4) | ((with_reducible refine gate_callee (f := 55) rfl ?_); refine goesL_ (some 58) rfl rfl Tryz.func55 (by kernel_rfl) rfl #[.int .i64 a0_3] rfl (by (try simp only [List.map_toArray, List.map_cons, List.map_nil]); first | done | rfl | (simp only [List.length_drop, List.length_take]; rfl)) ?_; (with_reducible refine (colonnaderef01_Fits.calls a0_3 false _ A51.out).mono ?_); rintro e w' ⟨rfl, ⟨nd, rfl⟩⟩; refine ⟨_, rfl, ?_⟩))
                go_ret
                exact ⟨by first | rfl | (simp [errW_none, errW_some] <;> rfl) | (simp [*, errW_none, errW_some] <;> rfl), by repeat (first | (with_reducible first | exact HB.out | apply below_alloc | apply pw_below_drewN | apply below_drew1 | refine below_set ?_ GE214.out) | exact HB.out)⟩
            · rw [if_neg c50] at H
              have c50b0 : (a0_0 == 3) = false := beq_eq_false_iff_ne.mpr c50
              have c50b1 : (a0_0 != 3) = true := bne_iff_ne.mpr c50
              by_cases c61 : a0_0 = 5
              · rw [if_pos c61] at H
                have c61b0 : (a0_0 == 5) = true := beq_iff_eq.mpr c61
                have c61b1 : (a0_0 != 5) = false := bne_eq_false_iff_eq.mpr c61
                clear c61
                by_cases c62 : a0_3 < (-719162)
                · rw [if_pos c62] at H
                  have c62b0 : decide (a0_3 < (-719162)) = true := decide_eq_true c62
                  clear c62
                  obtain rfl := Option.some.inj H
                  go_enter Tryz.func21, Tryz.ntmps21
                  go_wp2_with (first | ((with_reducible refine gate_dst (N := 1) rfl ?_); (try (refine gate_guard (by rfl) ?_; dsimp only)); refine box_event ?hg (N := 1) ?hd (cs := #[.int .i64 a0_0, .int .i64 a0_1, .bool false, .int .i64 a0_3, .string a0_4]) (t := 41) ?hr ?_; (case hd => rfl); (case hg => rfl); (case hr => first | (go_simp; done) | (go_simp; rfl)); intro gb214 hg w63 hbox hb; have n0_ := Aside0.mk (below_step (by repeat (first | (with_reducible first | exact HB.out | apply below_alloc | apply pw_below_drewN | apply below_drew1) | exact HB.out)) hb); have n1_ := Aside0.mk (hbox); have n2_ := Aside0.mk ((by rw [hg]; exact (below_size (by repeat (first | (with_reducible first | exact HB.out | apply below_alloc | apply pw_below_drewN | apply below_drew1) | exact HB.out))) : w.heap.size ≤ gb214)); have n3_ := Aside0.mk ((by rw [hg]; exact (below_size (by repeat (first | (with_reducible first | exact HB.out | apply below_alloc | apply pw_below_drewN | apply below_drew1) | exact HB.out))) : w.heap.size ≤ gb214)); clear HB; have HB := n0_; have BK214 := n1_; have GW214 := n2_; have GE214 := n3_; clear n0_ n1_ n2_ n3_; clear hb hbox hg; have hcz64_0 : w63.cell? ⟨gb214, 0, none⟩ = some (.int .i64 a0_0) := (blk_cell BK214.out 0).trans rfl; have hcz64_1 : w63.cell? ⟨gb214, 1, none⟩ = some (.int .i64 a0_1) := (blk_cell BK214.out 1).trans rfl; have hcz64_2 : w63.cell? ⟨gb214, 2, none⟩ = some (.bool false) := (blk_cell BK214.out 2).trans rfl; have hcz64_3 : w63.cell? ⟨gb214, 3, none⟩ = some (.int .i64 a0_3) := (blk_cell BK214.out 3).trans rfl; have hcz64_4 : w63.cell? ⟨gb214, 4, none⟩ = some (.string a0_4) := (blk_cell BK214.out 4).trans rfl; have hfz64_0 := blk_frozen BK214.out 0; have hfz64_1 := blk_frozen BK214.out 1; have hfz64_2 := blk_frozen BK214.out 2; have hfz64_3 := blk_frozen BK214.out 3; have hfz64_4 := blk_frozen BK214.out 4) | ((with_reducible refine gate_callee (f := 54) rfl ?_); refine goesL_ (some 8) rfl rfl Tryz.func54 (by kernel_rfl) rfl #[.agg #[.int .i64 a0_0, .int .i64 a0_1]] rfl (by (try simp only [List.map_toArray, List.map_cons, List.map_nil]); first | done | rfl | (simp only [List.length_drop, List.length_take]; rfl)) ?_; (with_reducible refine (colonnaderef02_CheckType.calls a0_0 a0_1 t215 _ A2.out).mono ?_); rintro e w65 ⟨rfl, hb⟩; refine ⟨_, rfl, ?_⟩; have n0_ := Aside0.mk (blk_below (g := gb214) (o := .cells #[.int .i64 a0_0, .int .i64 a0_1, .bool false, .int .i64 a0_3, .string a0_4] 41 (0, 0)) (by (with_reducible repeat (first | refine blk_drewN ?_ _ | refine blk_drew ?_ | refine blk_alloc ?_ _)); exact BK214.out) hb); have n1_ := Aside0.mk (below_step (by repeat (first | (with_reducible first | exact HB.out | apply below_alloc | apply pw_below_drewN | apply below_drew1 | refine below_set ?_ GE214.out) | exact HB.out)) hb); clear BK214; clear HB; have BK214 := n0_; have HB := n1_; clear n0_ n1_; (try clear hb); (try clear hb2); (try clear hk); (try clear hi); have hcz66_0 : w65.cell? ⟨gb214, 0, none⟩ = some (.int .i64 a0_0) := (blk_cell BK214.out 0).trans rfl; have hcz66_1 : w65.cell? ⟨gb214, 1, none⟩ = some (.int .i64 a0_1) := (blk_cell BK214.out 1).trans rfl; have hcz66_2 : w65.cell? ⟨gb214, 2, none⟩ = some (.bool false) := (blk_cell BK214.out 2).trans rfl; have hcz66_3 : w65.cell? ⟨gb214, 3, none⟩ = some (.int .i64 a0_3) := (blk_cell BK214.out 3).trans rfl; have hcz66_4 : w65.cell? ⟨gb214, 4, none⟩ = some (.string a0_4) := (blk_cell BK214.out 4).trans rfl; have hfz66_0 := blk_frozen BK214.out 0; have hfz66_1 := blk_frozen BK214.out 1; have hfz66_2 := blk_frozen BK214.out 2; have hfz66_3 := blk_frozen BK214.out 3; have hfz66_4 := blk_frozen BK214.out 4))
                  go_ret
                  exact ⟨by first | rfl | (simp [errW_none, errW_some] <;> rfl) | (simp [*, errW_none, errW_some] <;> rfl), by repeat (first | (with_reducible first | exact HB.out | apply below_alloc | apply pw_below_drewN | apply below_drew1 | refine below_set ?_ GE214.out) | exact HB.out)⟩
                · rw [if_neg c62] at H
                  have c62b0 : decide (a0_3 < (-719162)) = false := decide_eq_false c62
                  clear c62
                  by_cases c67 : a0_3 > 2932896
                  · rw [if_pos c67] at H
                    have c67b0 : decide (2932896 < a0_3) = true := decide_eq_true c67
                    clear c67
                    obtain rfl := Option.some.inj H
                    go_enter Tryz.func21, Tryz.ntmps21
                    go_wp2_with (first | ((with_reducible refine gate_dst (N := 1) rfl ?_); (try (refine gate_guard (by rfl) ?_; dsimp only)); refine box_event ?hg (N := 1) ?hd (cs := #[.int .i64 a0_0, .int .i64 a0_1, .bool false, .int .i64 a0_3, .string a0_4]) (t := 41) ?hr ?_; (case hd => rfl); (case hg => rfl); (case hr => first | (go_simp; done) | (go_simp; rfl)); intro gb214 hg w68 hbox hb; have n0_ := Aside0.mk (below_step (by repeat (first | (with_reducible first | exact HB.out | apply below_alloc | apply pw_below_drewN | apply below_drew1) | exact HB.out)) hb); have n1_ := Aside0.mk (hbox); have n2_ := Aside0.mk ((by rw [hg]; exact (below_size (by repeat (first | (with_reducible first | exact HB.out | apply below_alloc | apply pw_below_drewN | apply below_drew1) | exact HB.out))) : w.heap.size ≤ gb214)); have n3_ := Aside0.mk ((by rw [hg]; exact (below_size (by repeat (first | (with_reducible first | exact HB.out | apply below_alloc | apply pw_below_drewN | apply below_drew1) | exact HB.out))) : w.heap.size ≤ gb214)); clear HB; have HB := n0_; have BK214 := n1_; have GW214 := n2_; have GE214 := n3_; clear n0_ n1_ n2_ n3_; clear hb hbox hg; have hcz69_0 : w68.cell? ⟨gb214, 0, none⟩ = some (.int .i64 a0_0) := (blk_cell BK214.out 0).trans rfl; have hcz69_1 : w68.cell? ⟨gb214, 1, none⟩ = some (.int .i64 a0_1) := (blk_cell BK214.out 1).trans rfl; have hcz69_2 : w68.cell? ⟨gb214, 2, none⟩ = some (.bool false) := (blk_cell BK214.out 2).trans rfl; have hcz69_3 : w68.cell? ⟨gb214, 3, none⟩ = some (.int .i64 a0_3) := (blk_cell BK214.out 3).trans rfl; have hcz69_4 : w68.cell? ⟨gb214, 4, none⟩ = some (.string a0_4) := (blk_cell BK214.out 4).trans rfl; have hfz69_0 := blk_frozen BK214.out 0; have hfz69_1 := blk_frozen BK214.out 1; have hfz69_2 := blk_frozen BK214.out 2; have hfz69_3 := blk_frozen BK214.out 3; have hfz69_4 := blk_frozen BK214.out 4) | ((with_reducible refine gate_callee (f := 54) rfl ?_); refine goesL_ (some 8) rfl rfl Tryz.func54 (by kernel_rfl) rfl #[.agg #[.int .i64 a0_0, .int .i64 a0_1]] rfl (by (try simp only [List.map_toArray, List.map_cons, List.map_nil]); first | done | rfl | (simp only [List.length_drop, List.length_take]; rfl)) ?_; (with_reducible refine (colonnaderef02_CheckType.calls a0_0 a0_1 t215 _ A2.out).mono ?_); rintro e w70 ⟨rfl, hb⟩; refine ⟨_, rfl, ?_⟩; have n0_ := Aside0.mk (blk_below (g := gb214) (o := .cells #[.int .i64 a0_0, .int .i64 a0_1, .bool false, .int .i64 a0_3, .string a0_4] 41 (0, 0)) (by (with_reducible repeat (first | refine blk_drewN ?_ _ | refine blk_drew ?_ | refine blk_alloc ?_ _)); exact BK214.out) hb); have n1_ := Aside0.mk (below_step (by repeat (first | (with_reducible first | exact HB.out | apply below_alloc | apply pw_below_drewN | apply below_drew1 | refine below_set ?_ GE214.out) | exact HB.out)) hb); clear BK214; clear HB; have BK214 := n0_; have HB := n1_; clear n0_ n1_; (try clear hb); (try clear hb2); (try clear hk); (try clear hi); have hcz71_0 : w70.cell? ⟨gb214, 0, none⟩ = some (.int .i64 a0_0) := (blk_cell BK214.out 0).trans rfl; have hcz71_1 : w70.cell? ⟨gb214, 1, none⟩ = some (.int .i64 a0_1) := (blk_cell BK214.out 1).trans rfl; have hcz71_2 : w70.cell? ⟨gb214, 2, none⟩ = some (.bool false) := (blk_cell BK214.out 2).trans rfl; have hcz71_3 : w70.cell? ⟨gb214, 3, none⟩ = some (.int .i64 a0_3) := (blk_cell BK214.out 3).trans rfl; have hcz71_4 : w70.cell? ⟨gb214, 4, none⟩ = some (.string a0_4) := (blk_cell BK214.out 4).trans rfl; have hfz71_0 := blk_frozen BK214.out 0; have hfz71_1 := blk_frozen BK214.out 1; have hfz71_2 := blk_frozen BK214.out 2; have hfz71_3 := blk_frozen BK214.out 3; have hfz71_4 := blk_frozen BK214.out 4))
                    go_ret
                    exact ⟨by first | rfl | (simp [errW_none, errW_some] <;> rfl) | (simp [*, errW_none, errW_some] <;> rfl), by repeat (first | (with_reducible first | exact HB.out | apply below_alloc | apply pw_below_drewN | apply below_drew1 | refine below_set ?_ GE214.out) | exact HB.out)⟩
                  · rw [if_neg c67] at H
                    have c67b0 : decide (2932896 < a0_3) = false := decide_eq_false c67
                    clear c67
                    obtain rfl := Option.some.inj H
                    go_enter Tryz.func21, Tryz.ntmps21
                    go_wp2_with (first | ((with_reducible refine gate_dst (N := 1) rfl ?_); (try (refine gate_guard (by rfl) ?_; dsimp only)); refine box_event ?hg (N := 1) ?hd (cs := #[.int .i64 a0_0, .int .i64 a0_1, .bool false, .int .i64 a0_3, .string a0_4]) (t := 41) ?hr ?_; (case hd => rfl); (case hg => rfl); (case hr => first | (go_simp; done) | (go_simp; rfl)); intro gb214 hg w72 hbox hb; have n0_ := Aside0.mk (below_step (by repeat (first | (with_reducible first | exact HB.out | apply below_alloc | apply pw_below_drewN | apply below_drew1) | exact HB.out)) hb); have n1_ := Aside0.mk (hbox); have n2_ := Aside0.mk ((by rw [hg]; exact (below_size (by repeat (first | (with_reducible first | exact HB.out | apply below_alloc | apply pw_below_drewN | apply below_drew1) | exact HB.out))) : w.heap.size ≤ gb214)); have n3_ := Aside0.mk ((by rw [hg]; exact (below_size (by repeat (first | (with_reducible first | exact HB.out | apply below_alloc | apply pw_below_drewN | apply below_drew1) | exact HB.out))) : w.heap.size ≤ gb214)); clear HB; have HB := n0_; have BK214 := n1_; have GW214 := n2_; have GE214 := n3_; clear n0_ n1_ n2_ n3_; clear hb hbox hg; have hcz73_0 : w72.cell? ⟨gb214, 0, none⟩ = some (.int .i64 a0_0) := (blk_cell BK214.out 0).trans rfl; have hcz73_1 : w72.cell? ⟨gb214, 1, none⟩ = some (.int .i64 a0_1) := (blk_cell BK214.out 1).trans rfl; have hcz73_2 : w72.cell? ⟨gb214, 2, none⟩ = some (.bool false) := (blk_cell BK214.out 2).trans rfl; have hcz73_3 : w72.cell? ⟨gb214, 3, none⟩ = some (.int .i64 a0_3) := (blk_cell BK214.out 3).trans rfl; have hcz73_4 : w72.cell? ⟨gb214, 4, none⟩ = some (.string a0_4) := (blk_cell BK214.out 4).trans rfl; have hfz73_0 := blk_frozen BK214.out 0; have hfz73_1 := blk_frozen BK214.out 1; have hfz73_2 := blk_frozen BK214.out 2; have hfz73_3 := blk_frozen BK214.out 3; have hfz73_4 := blk_frozen BK214.out 4) | ((with_reducible refine gate_callee (f := 54) rfl ?_); refine goesL_ (some 8) rfl rfl Tryz.func54 (by kernel_rfl) rfl #[.agg #[.int .i64 a0_0, .int .i64 a0_1]] rfl (by (try simp only [List.map_toArray, List.map_cons, List.map_nil]); first | done | rfl | (simp only [List.length_drop, List.length_take]; rfl)) ?_; (with_reducible refine (colonnaderef02_CheckType.calls a0_0 a0_1 t215 _ A2.out).mono ?_); rintro e w74 ⟨rfl, hb⟩; refine ⟨_, rfl, ?_⟩; have n0_ := Aside0.mk (blk_below (g := gb214) (o := .cells #[.int .i64 a0_0, .int .i64 a0_1, .bool false, .int .i64 a0_3, .string a0_4] 41 (0, 0)) (by (with_reducible repeat (first | refine blk_drewN ?_ _ | refine blk_drew ?_ | refine blk_alloc ?_ _)); exact BK214.out) hb); have n1_ := Aside0.mk (below_step (by repeat (first | (with_reducible first | exact HB.out | apply below_alloc | apply pw_below_drewN | apply below_drew1 | refine below_set ?_ GE214.out) | exact HB.out)) hb); clear BK214; clear HB; have BK214 := n0_; have HB := n1_; clear n0_ n1_; (try clear hb); (try clear hb2); (try clear hk); (try clear hi); have hcz75_0 : w74.cell? ⟨gb214, 0, none⟩ = some (.int .i64 a0_0) := (blk_cell BK214.out 0).trans rfl; have hcz75_1 : w74.cell? ⟨gb214, 1, none⟩ = some (.int .i64 a0_1) := (blk_cell BK214.out 1).trans rfl; have hcz75_2 : w74.cell? ⟨gb214, 2, none⟩ = some (.bool false) := (blk_cell BK214.out 2).trans rfl; have hcz75_3 : w74.cell? ⟨gb214, 3, none⟩ = some (.int .i64 a0_3) := (blk_cell BK214.out 3).trans rfl; have hcz75_4 : w74.cell? ⟨gb214, 4, none⟩ = some (.string a0_4) := (blk_cell BK214.out 4).trans rfl; have hfz75_0 := blk_frozen BK214.out 0; have hfz75_1 := blk_frozen BK214.out 1; have hfz75_2 := blk_frozen BK214.out 2; have hfz75_3 := blk_frozen BK214.out 3; have hfz75_4 := blk_frozen BK214.out 4))
                    go_ret
                    exact ⟨by first | rfl | (simp [errW_none, errW_some] <;> rfl) | (simp [*, errW_none, errW_some] <;> rfl), by repeat (first | (with_reducible first | exact HB.out | apply below_alloc | apply pw_below_drewN | apply below_drew1 | refine below_set ?_ GE214.out) | exact HB.out)⟩
              · rw [if_neg c61] at H
                have c61b0 : (a0_0 == 5) = false := beq_eq_false_iff_ne.mpr c61
                have c61b1 : (a0_0 != 5) = true := bne_iff_ne.mpr c61
                obtain rfl := Option.some.inj H
                go_enter Tryz.func21, Tryz.ntmps21
                go_wp2_with (first | ((with_reducible refine gate_dst (N := 1) rfl ?_); (try (refine gate_guard (by rfl) ?_; dsimp only)); refine box_event ?hg (N := 1) ?hd (cs := #[.int .i64 a0_0, .int .i64 a0_1, .bool false, .int .i64 a0_3, .string a0_4]) (t := 41) ?hr ?_; (case hd => rfl); (case hg => rfl); (case hr => first | (go_simp; done) | (go_simp; rfl)); intro gb214 hg w76 hbox hb; have n0_ := Aside0.mk (below_step (by repeat (first | (with_reducible first | exact HB.out | apply below_alloc | apply pw_below_drewN | apply below_drew1) | exact HB.out)) hb); have n1_ := Aside0.mk (hbox); have n2_ := Aside0.mk ((by rw [hg]; exact (below_size (by repeat (first | (with_reducible first | exact HB.out | apply below_alloc | apply pw_below_drewN | apply below_drew1) | exact HB.out))) : w.heap.size ≤ gb214)); have n3_ := Aside0.mk ((by rw [hg]; exact (below_size (by repeat (first | (with_reducible first | exact HB.out | apply below_alloc | apply pw_below_drewN | apply below_drew1) | exact HB.out))) : w.heap.size ≤ gb214)); clear HB; have HB := n0_; have BK214 := n1_; have GW214 := n2_; have GE214 := n3_; clear n0_ n1_ n2_ n3_; clear hb hbox hg; have hcz77_0 : w76.cell? ⟨gb214, 0, none⟩ = some (.int .i64 a0_0) := (blk_cell BK214.out 0).trans rfl; have hcz77_1 : w76.cell? ⟨gb214, 1, none⟩ = some (.int .i64 a0_1) := (blk_cell BK214.out 1).trans rfl; have hcz77_2 : w76.cell? ⟨gb214, 2, none⟩ = some (.bool false) := (blk_cell BK214.out 2).trans rfl; have hcz77_3 : w76.cell? ⟨gb214, 3, none⟩ = some (.int .i64 a0_3) := (blk_cell BK214.out 3).trans rfl; have hcz77_4 : w76.cell? ⟨gb214, 4, none⟩ = some (.string a0_4) := (blk_cell BK214.out 4).trans rfl; have hfz77_0 := blk_frozen BK214.out 0; have hfz77_1 := blk_frozen BK214.out 1; have hfz77_2 := blk_frozen BK214.out 2; have hfz77_3 := blk_frozen BK214.out 3; have hfz77_4 := blk_frozen BK214.out 4) | ((with_reducible refine gate_callee (f := 54) rfl ?_); refine goesL_ (some 8) rfl rfl Tryz.func54 (by kernel_rfl) rfl #[.agg #[.int .i64 a0_0, .int .i64 a0_1]] rfl (by (try simp only [List.map_toArray, List.map_cons, List.map_nil]); first | done | rfl | (simp only [List.length_drop, List.length_take]; rfl)) ?_; (with_reducible refine (colonnaderef02_CheckType.calls a0_0 a0_1 t215 _ A2.out).mono ?_); rintro e w78 ⟨rfl, hb⟩; refine ⟨_, rfl, ?_⟩; have n0_ := Aside0.mk (blk_below (g := gb214) (o := .cells #[.int .i64 a0_0, .int .i64 a0_1, .bool false, .int .i64 a0_3, .string a0_4] 41 (0, 0)) (by (with_reducible repeat (first | refine blk_drewN ?_ _ | refine blk_drew ?_ | refine blk_alloc ?_ _)); exact BK214.out) hb); have n1_ := Aside0.mk (below_step (by repeat (first | (with_reducible first | exact HB.out | apply below_alloc | apply pw_below_drewN | apply below_drew1 | refine below_set ?_ GE214.out) | exact HB.out)) hb); clear BK214; clear HB; have BK214 := n0_; have HB := n1_; clear n0_ n1_; (try clear hb); (try clear hb2); (try clear hk); (try clear hi); have hcz79_0 : w78.cell? ⟨gb214, 0, none⟩ = some (.int .i64 a0_0) := (blk_cell BK214.out 0).trans rfl; have hcz79_1 : w78.cell? ⟨gb214, 1, none⟩ = some (.int .i64 a0_1) := (blk_cell BK214.out 1).trans rfl; have hcz79_2 : w78.cell? ⟨gb214, 2, none⟩ = some (.bool false) := (blk_cell BK214.out 2).trans rfl; have hcz79_3 : w78.cell? ⟨gb214, 3, none⟩ = some (.int .i64 a0_3) := (blk_cell BK214.out 3).trans rfl; have hcz79_4 : w78.cell? ⟨gb214, 4, none⟩ = some (.string a0_4) := (blk_cell BK214.out 4).trans rfl; have hfz79_0 := blk_frozen BK214.out 0; have hfz79_1 := blk_frozen BK214.out 1; have hfz79_2 := blk_frozen BK214.out 2; have hfz79_3 := blk_frozen BK214.out 3; have hfz79_4 := blk_frozen BK214.out 4))
                go_ret
                exact ⟨by first | rfl | (simp [errW_none, errW_some] <;> rfl) | (simp [*, errW_none, errW_some] <;> rfl), by repeat (first | (with_reducible first | exact HB.out | apply below_alloc | apply pw_below_drewN | apply below_drew1 | refine below_set ?_ GE214.out) | exact HB.out)⟩
        · rw [if_neg c34] at H
          have c34b0 : (a0_4.toList == ([] : List UInt8)) = false := beq_eq_false_iff_ne.mpr c34
          have c34b1 : (a0_4.toList != ([] : List UInt8)) = true := bne_iff_ne.mpr c34
          obtain rfl := Option.some.inj H
          go_enter Tryz.func21, Tryz.ntmps21
          go_wp2_with (first | ((with_reducible refine gate_dst (N := 1) rfl ?_); (try (refine gate_guard (by rfl) ?_; dsimp only)); refine box_event ?hg (N := 1) ?hd (cs := #[.int .i64 a0_0, .int .i64 a0_1, .bool false, .int .i64 a0_3, .string a0_4]) (t := 41) ?hr ?_; (case hd => rfl); (case hg => rfl); (case hr => first | (go_simp; done) | (go_simp; rfl)); intro gb214 hg w80 hbox hb; have n0_ := Aside0.mk (below_step (by repeat (first | (with_reducible first | exact HB.out | apply below_alloc | apply pw_below_drewN | apply below_drew1) | exact HB.out)) hb); have n1_ := Aside0.mk (hbox); have n2_ := Aside0.mk ((by rw [hg]; exact (below_size (by repeat (first | (with_reducible first | exact HB.out | apply below_alloc | apply pw_below_drewN | apply below_drew1) | exact HB.out))) : w.heap.size ≤ gb214)); have n3_ := Aside0.mk ((by rw [hg]; exact (below_size (by repeat (first | (with_reducible first | exact HB.out | apply below_alloc | apply pw_below_drewN | apply below_drew1) | exact HB.out))) : w.heap.size ≤ gb214)); clear HB; have HB := n0_; have BK214 := n1_; have GW214 := n2_; have GE214 := n3_; clear n0_ n1_ n2_ n3_; clear hb hbox hg; have hcz81_0 : w80.cell? ⟨gb214, 0, none⟩ = some (.int .i64 a0_0) := (blk_cell BK214.out 0).trans rfl; have hcz81_1 : w80.cell? ⟨gb214, 1, none⟩ = some (.int .i64 a0_1) := (blk_cell BK214.out 1).trans rfl; have hcz81_2 : w80.cell? ⟨gb214, 2, none⟩ = some (.bool false) := (blk_cell BK214.out 2).trans rfl; have hcz81_3 : w80.cell? ⟨gb214, 3, none⟩ = some (.int .i64 a0_3) := (blk_cell BK214.out 3).trans rfl; have hcz81_4 : w80.cell? ⟨gb214, 4, none⟩ = some (.string a0_4) := (blk_cell BK214.out 4).trans rfl; have hfz81_0 := blk_frozen BK214.out 0; have hfz81_1 := blk_frozen BK214.out 1; have hfz81_2 := blk_frozen BK214.out 2; have hfz81_3 := blk_frozen BK214.out 3; have hfz81_4 := blk_frozen BK214.out 4) | ((with_reducible refine gate_callee (f := 54) rfl ?_); refine goesL_ (some 8) rfl rfl Tryz.func54 (by kernel_rfl) rfl #[.agg #[.int .i64 a0_0, .int .i64 a0_1]] rfl (by (try simp only [List.map_toArray, List.map_cons, List.map_nil]); first | done | rfl | (simp only [List.length_drop, List.length_take]; rfl)) ?_; (with_reducible refine (colonnaderef02_CheckType.calls a0_0 a0_1 t215 _ A2.out).mono ?_); rintro e w82 ⟨rfl, hb⟩; refine ⟨_, rfl, ?_⟩; have n0_ := Aside0.mk (blk_below (g := gb214) (o := .cells #[.int .i64 a0_0, .int .i64 a0_1, .bool false, .int .i64 a0_3, .string a0_4] 41 (0, 0)) (by (with_reducible repeat (first | refine blk_drewN ?_ _ | refine blk_drew ?_ | refine blk_alloc ?_ _)); exact BK214.out) hb); have n1_ := Aside0.mk (below_step (by repeat (first | (with_reducible first | exact HB.out | apply below_alloc | apply pw_below_drewN | apply below_drew1 | refine below_set ?_ GE214.out) | exact HB.out)) hb); clear BK214; clear HB; have BK214 := n0_; have HB := n1_; clear n0_ n1_; (try clear hb); (try clear hb2); (try clear hk); (try clear hi); have hcz83_0 : w82.cell? ⟨gb214, 0, none⟩ = some (.int .i64 a0_0) := (blk_cell BK214.out 0).trans rfl; have hcz83_1 : w82.cell? ⟨gb214, 1, none⟩ = some (.int .i64 a0_1) := (blk_cell BK214.out 1).trans rfl; have hcz83_2 : w82.cell? ⟨gb214, 2, none⟩ = some (.bool false) := (blk_cell BK214.out 2).trans rfl; have hcz83_3 : w82.cell? ⟨gb214, 3, none⟩ = some (.int .i64 a0_3) := (blk_cell BK214.out 3).trans rfl; have hcz83_4 : w82.cell? ⟨gb214, 4, none⟩ = some (.string a0_4) := (blk_cell BK214.out 4).trans rfl; have hfz83_0 := blk_frozen BK214.out 0; have hfz83_1 := blk_frozen BK214.out 1; have hfz83_2 := blk_frozen BK214.out 2; have hfz83_3 := blk_frozen BK214.out 3; have hfz83_4 := blk_frozen BK214.out 4))
          go_ret
          exact ⟨by first | rfl | (simp [errW_none, errW_some] <;> rfl) | (simp [*, errW_none, errW_some] <;> rfl), by repeat (first | (with_reducible first | exact HB.out | apply below_alloc | apply pw_below_drewN | apply below_drew1 | refine below_set ?_ GE214.out) | exact HB.out)⟩
  · rw [if_neg c3] at H
    have c3b0 : (t215 == 0) = false := beq_eq_false_iff_ne.mpr c3
    have c3b1 : (t215 != 0) = true := bne_iff_ne.mpr c3
    obtain rfl := Option.some.inj H
    go_enter Tryz.func21, Tryz.ntmps21
    go_wp2_with (first | ((with_reducible refine gate_dst (N := 1) rfl ?_); (try (refine gate_guard (by rfl) ?_; dsimp only)); refine box_event ?hg (N := 1) ?hd (cs := #[.int .i64 a0_0, .int .i64 a0_1, .bool a0_2, .int .i64 a0_3, .string a0_4]) (t := 41) ?hr ?_; (case hd => rfl); (case hg => rfl); (case hr => first | (go_simp; done) | (go_simp; rfl)); intro gb214 hg w84 hbox hb; have n0_ := Aside0.mk (below_step (by repeat (first | (with_reducible first | exact HB.out | apply below_alloc | apply pw_below_drewN | apply below_drew1) | exact HB.out)) hb); have n1_ := Aside0.mk (hbox); have n2_ := Aside0.mk ((by rw [hg]; exact (below_size (by repeat (first | (with_reducible first | exact HB.out | apply below_alloc | apply pw_below_drewN | apply below_drew1) | exact HB.out))) : w.heap.size ≤ gb214)); have n3_ := Aside0.mk ((by rw [hg]; exact (below_size (by repeat (first | (with_reducible first | exact HB.out | apply below_alloc | apply pw_below_drewN | apply below_drew1) | exact HB.out))) : w.heap.size ≤ gb214)); clear HB; have HB := n0_; have BK214 := n1_; have GW214 := n2_; have GE214 := n3_; clear n0_ n1_ n2_ n3_; clear hb hbox hg; have hcz85_0 : w84.cell? ⟨gb214, 0, none⟩ = some (.int .i64 a0_0) := (blk_cell BK214.out 0).trans rfl; have hcz85_1 : w84.cell? ⟨gb214, 1, none⟩ = some (.int .i64 a0_1) := (blk_cell BK214.out 1).trans rfl; have hcz85_2 : w84.cell? ⟨gb214, 2, none⟩ = some (.bool a0_2) := (blk_cell BK214.out 2).trans rfl; have hcz85_3 : w84.cell? ⟨gb214, 3, none⟩ = some (.int .i64 a0_3) := (blk_cell BK214.out 3).trans rfl; have hcz85_4 : w84.cell? ⟨gb214, 4, none⟩ = some (.string a0_4) := (blk_cell BK214.out 4).trans rfl; have hfz85_0 := blk_frozen BK214.out 0; have hfz85_1 := blk_frozen BK214.out 1; have hfz85_2 := blk_frozen BK214.out 2; have hfz85_3 := blk_frozen BK214.out 3; have hfz85_4 := blk_frozen BK214.out 4) | ((with_reducible refine gate_callee (f := 54) rfl ?_); refine goesL_ (some 8) rfl rfl Tryz.func54 (by kernel_rfl) rfl #[.agg #[.int .i64 a0_0, .int .i64 a0_1]] rfl (by (try simp only [List.map_toArray, List.map_cons, List.map_nil]); first | done | rfl | (simp only [List.length_drop, List.length_take]; rfl)) ?_; (with_reducible refine (colonnaderef02_CheckType.calls a0_0 a0_1 t215 _ A2.out).mono ?_); rintro e w86 ⟨rfl, hb⟩; refine ⟨_, rfl, ?_⟩; have n0_ := Aside0.mk (blk_below (g := gb214) (o := .cells #[.int .i64 a0_0, .int .i64 a0_1, .bool a0_2, .int .i64 a0_3, .string a0_4] 41 (0, 0)) (by (with_reducible repeat (first | refine blk_drewN ?_ _ | refine blk_drew ?_ | refine blk_alloc ?_ _)); exact BK214.out) hb); have n1_ := Aside0.mk (below_step (by repeat (first | (with_reducible first | exact HB.out | apply below_alloc | apply pw_below_drewN | apply below_drew1 | refine below_set ?_ GE214.out) | exact HB.out)) hb); clear BK214; clear HB; have BK214 := n0_; have HB := n1_; clear n0_ n1_; (try clear hb); (try clear hb2); (try clear hk); (try clear hi)))
    go_ret
    exact ⟨by first | rfl | (simp [errW_none, errW_some] <;> rfl) | (simp [*, errW_none, errW_some] <;> rfl), by repeat (first | (with_reducible first | exact HB.out | apply below_alloc | apply pw_below_drewN | apply below_drew1 | refine below_set ?_ GE214.out) | exact HB.out)⟩

/-! ### colonnadelaw11_SchemaAgain_1: function 20 -/
def colonnadelaw11_SchemaAgain_1.f (a0_0 : Int) (a0_1 : Int) (a0_2 : Bool) (a0_3 : Int) (a0_4 : ByteArray) : Option (Bool) := if a0_2 = true then (some false) else ((colonnaderef02_Check.f a0_0 a0_1 a0_2 a0_3 a0_4).bind fun t218 => (some (t218 != 0)))
set_option maxHeartbeats 8000000 in
set_option maxRecDepth 100000 in
theorem colonnadelaw11_SchemaAgain_1.calls (a0_0 : Int) (a0_1 : Int) (a0_2 : Bool) (a0_3 : Int) (a0_4 : ByteArray) (r : Bool) (w : World) (h : colonnadelaw11_SchemaAgain_1.f a0_0 a0_1 a0_2 a0_3 a0_4 = some r) :
    Calls Tryz.prog 20 #[.agg #[.int .i64 a0_0, .int .i64 a0_1, .bool a0_2, .int .i64 a0_3, .string a0_4]] w fun e w' => e = .returned (.bool r) ∧ Below w.heap.size w w' := by
  have hu41 := Tryz.underlying41
  have HB := Aside0.mk (Below.refl w.heap.size w)
  have H : (if a0_2 = true then (some false) else ((colonnaderef02_Check.f a0_0 a0_1 a0_2 a0_3 a0_4).bind fun t218 => (some (t218 != 0)))) = some r := h
  clear h
  by_cases c2 : a0_2 = true
  · subst c2
    have H1 : (some false) = some r := by rw [if_pos rfl] at H; exact H
    clear H
    have H := H1
    clear H1
    obtain rfl := Option.some.inj H
    go_enter Tryz.func20, Tryz.ntmps20
    go_wp2_with (first | ((with_reducible refine gate_dst (N := 1) rfl ?_); refine box_event ?hg (N := 1) ?hd (cs := #[.int .i64 a0_0, .int .i64 a0_1, .bool true, .int .i64 a0_3, .string a0_4]) (t := 41) ?hr ?_; (case hd => rfl); (case hg => rfl); (case hr => first | (go_simp; done) | (go_simp; rfl)); intro gb217 hg w3 hbox hb; have n0_ := Aside0.mk (below_step (by repeat (first | (with_reducible first | exact HB.out | apply below_alloc | apply pw_below_drewN | apply below_drew1) | exact HB.out)) hb); have n1_ := Aside0.mk (hbox); have n2_ := Aside0.mk ((by rw [hg]; exact (below_size (by repeat (first | (with_reducible first | exact HB.out | apply below_alloc | apply pw_below_drewN | apply below_drew1) | exact HB.out))) : w.heap.size ≤ gb217)); have n3_ := Aside0.mk ((by rw [hg]; exact (below_size (by repeat (first | (with_reducible first | exact HB.out | apply below_alloc | apply pw_below_drewN | apply below_drew1) | exact HB.out))) : w.heap.size ≤ gb217)); clear HB; have HB := n0_; have BK217 := n1_; have GW217 := n2_; have GE217 := n3_; clear n0_ n1_ n2_ n3_; clear hb hbox hg; have hcz4_0 : w3.cell? ⟨gb217, 0, none⟩ = some (.int .i64 a0_0) := (blk_cell BK217.out 0).trans rfl; have hcz4_1 : w3.cell? ⟨gb217, 1, none⟩ = some (.int .i64 a0_1) := (blk_cell BK217.out 1).trans rfl; have hcz4_2 : w3.cell? ⟨gb217, 2, none⟩ = some (.bool true) := (blk_cell BK217.out 2).trans rfl; have hcz4_3 : w3.cell? ⟨gb217, 3, none⟩ = some (.int .i64 a0_3) := (blk_cell BK217.out 3).trans rfl; have hcz4_4 : w3.cell? ⟨gb217, 4, none⟩ = some (.string a0_4) := (blk_cell BK217.out 4).trans rfl; have hfz4_0 := blk_frozen BK217.out 0; have hfz4_1 := blk_frozen BK217.out 1; have hfz4_2 := blk_frozen BK217.out 2; have hfz4_3 := blk_frozen BK217.out 3; have hfz4_4 := blk_frozen BK217.out 4))
    go_ret
    exact ⟨by first | rfl | (simp [errW_none, errW_some] <;> rfl) | (simp [*, errW_none, errW_some] <;> rfl), by repeat (first | (with_reducible first | exact HB.out | apply below_alloc | apply pw_below_drewN | apply below_drew1 | refine below_set ?_ GE217.out) | exact HB.out)⟩
  · replace c2 := Bool.eq_false_iff.mpr c2
    subst c2
    have H1 : ((colonnaderef02_Check.f a0_0 a0_1 false a0_3 a0_4).bind fun t218 => (some (t218 != 0))) = some r := by rw [if_neg (show ¬ (false = true) by decide)] at H; exact H
    clear H
    have H := H1
    clear H1
    replace H := Option.bind_eq_some_iff.mp H
    obtain ⟨t218, A50, H⟩ := H
    replace H : (some (t218 != 0)) = some r := H
    have A5 := Aside0.mk A50
    clear A50
    obtain rfl := Option.some.inj H
    go_enter Tryz.func20, Tryz.ntmps20
    go_wp2_with (first | ((with_reducible refine gate_dst (N := 1) rfl ?_); refine box_event ?hg (N := 1) ?hd (cs := #[.int .i64 a0_0, .int .i64 a0_1, .bool false, .int .i64 a0_3, .string a0_4]) (t := 41) ?hr ?_; (case hd => rfl); (case hg => rfl); (case hr => first | (go_simp; done) | (go_simp; rfl)); intro gb217 hg w6 hbox hb; have n0_ := Aside0.mk (below_step (by repeat (first | (with_reducible first | exact HB.out | apply below_alloc | apply pw_below_drewN | apply below_drew1) | exact HB.out)) hb); have n1_ := Aside0.mk (hbox); have n2_ := Aside0.mk ((by rw [hg]; exact (below_size (by repeat (first | (with_reducible first | exact HB.out | apply below_alloc | apply pw_below_drewN | apply below_drew1) | exact HB.out))) : w.heap.size ≤ gb217)); have n3_ := Aside0.mk ((by rw [hg]; exact (below_size (by repeat (first | (with_reducible first | exact HB.out | apply below_alloc | apply pw_below_drewN | apply below_drew1) | exact HB.out))) : w.heap.size ≤ gb217)); clear HB; have HB := n0_; have BK217 := n1_; have GW217 := n2_; have GE217 := n3_; clear n0_ n1_ n2_ n3_; clear hb hbox hg; have hcz7_0 : w6.cell? ⟨gb217, 0, none⟩ = some (.int .i64 a0_0) := (blk_cell BK217.out 0).trans rfl; have hcz7_1 : w6.cell? ⟨gb217, 1, none⟩ = some (.int .i64 a0_1) := (blk_cell BK217.out 1).trans rfl; have hcz7_2 : w6.cell? ⟨gb217, 2, none⟩ = some (.bool false) := (blk_cell BK217.out 2).trans rfl; have hcz7_3 : w6.cell? ⟨gb217, 3, none⟩ = some (.int .i64 a0_3) := (blk_cell BK217.out 3).trans rfl; have hcz7_4 : w6.cell? ⟨gb217, 4, none⟩ = some (.string a0_4) := (blk_cell BK217.out 4).trans rfl; have hfz7_0 := blk_frozen BK217.out 0; have hfz7_1 := blk_frozen BK217.out 1; have hfz7_2 := blk_frozen BK217.out 2; have hfz7_3 := blk_frozen BK217.out 3; have hfz7_4 := blk_frozen BK217.out 4) | (go_at_call 21; (with_reducible refine (colonnaderef02_Check.calls a0_0 a0_1 false a0_3 a0_4 t218 _ A5.out).mono ?_); rintro e w8 ⟨rfl, hb⟩; have n0_ := Aside0.mk (blk_below (g := gb217) (o := .cells #[.int .i64 a0_0, .int .i64 a0_1, .bool false, .int .i64 a0_3, .string a0_4] 41 (0, 0)) (by (with_reducible repeat (first | refine blk_drewN ?_ _ | refine blk_drew ?_ | refine blk_alloc ?_ _)); exact BK217.out) hb); have n1_ := Aside0.mk (below_step (by repeat (first | (with_reducible first | exact HB.out | apply below_alloc | apply pw_below_drewN | apply below_drew1 | refine below_set ?_ GE217.out) | exact HB.out)) hb); clear BK217; clear HB; have BK217 := n0_; have HB := n1_; clear n0_ n1_; (try clear hb); (try clear hb2); (try clear hk); (try clear hi)))
    go_ret
    exact ⟨by first | rfl | (simp [errW_none, errW_some] <;> rfl) | (simp [*, errW_none, errW_some] <;> rfl), by repeat (first | (with_reducible first | exact HB.out | apply below_alloc | apply pw_below_drewN | apply below_drew1 | refine below_set ?_ GE217.out) | exact HB.out)⟩

/-! ### api_Value: function 19, by hand -/
def api_Value.cs (x : S41) : List Value := [.int .i64 x.f0.f0, .int .i64 x.f0.f1, .bool x.f1, .int .i64 x.f2, .string x.f3]
theorem api_Value.getBang (i : Inhabited S41) (l : List S41) (j : Nat) (h : j < l.length) (z : S41) : @getElem! (List S41) Nat S41 _ _ i l j = l.getD j z := by
  rw [List.getElem!_eq_getElem?_getD, List.getD_eq_getElem?_getD, List.getElem?_eq_getElem h]
  rfl
theorem api_Value.plain {w : World} {b o : Nat} {sp : Option Nat} {v : Value} (h : w.cell? ⟨b, o, sp⟩ = some v) : sp = none ∧ b < w.heap.size := by
  unfold World.cell? at h
  cases ho : w.heap[b]? with
  | none => simp [ho] at h
  | some ob =>
    refine ⟨?_, (Array.getElem?_eq_some_iff.1 ho).1⟩
    cases ob <;> simp [ho] at h
    cases sp with
    | none => rfl
    | some q => simp at h
theorem api_Value.spread {w : World} {A : Option Addr} {l : List S41} (h : Kd.C k41 w A l.length l) (hl : 0 < l.length) : ∃ b off, A = some ⟨b, off, none⟩ ∧ b < w.heap.size ∧ ∀ j, j < l.length → ∀ i v, (api_Value.cs (l.getD j z41))[i]? = some v → w.cell? ⟨b, off + j * 5 + i, none⟩ = some v := by
  obtain ⟨ad, e0, h0, _⟩ := at_T41 h 0 (by omega) (by omega)
  obtain ⟨b, off, sp⟩ := ad
  obtain ⟨rfl, hb⟩ := api_Value.plain h0
  refine ⟨b, off, e0, hb, fun j hj i v hi => ?_⟩
  obtain ⟨ad, e1, h1, h2, h3, h4, h5⟩ := at_T41 h (j : Int) (by omega) (by omega)
  obtain rfl := Option.some.inj (e0.symm.trans e1)
  unfold rd_T41 at h1 h2 h3 h4 h5
  rw [show ((j : Int).toNat) = j from rfl] at h1 h2 h3 h4 h5
  rw [show (⟨b, off, none⟩ : Addr).add (j * 5) = ⟨b, off + j * 5, none⟩ from by unfold Addr.add; first | rfl | (simp; done) | (split <;> simp_all)] at h1 h2 h3 h4 h5
  unfold api_Value.cs at hi
  match i, hi with
  | 0, hi => rw [← Option.some.inj hi]; exact h1
  | 1, hi => rw [← Option.some.inj hi]; exact h2
  | 2, hi => rw [← Option.some.inj hi]; exact h3
  | 3, hi => rw [← Option.some.inj hi]; exact h4
  | 4, hi => rw [← Option.some.inj hi]; exact h5
  | i + 5, hi => simp at hi
set_option maxHeartbeats 4000000 in
theorem api_Value.idx0 (g : Nat) (lb : Array Value) (A : Option Addr) (c : Nat) (w : World) :
    Calls Tryz.prog 53 #[.slice A 0 c, .func (.func g) #[] lb] w fun e w' => e = .returned (.int .i64 (-1)) ∧ Below w.heap.size w w' := by
  have hb := Aside0.mk (Below.refl w.heap.size w)
  go_enter Tryz.func53, Tryz.ntmps53
  go_wp2
  go_loopg [8] 1 (fun kq v w' => v = .int .i64 0 ∧ Aside0 (Below w.heap.size w w'))
  case atStart => exact ⟨rfl, hb⟩
  case round =>
    obtain ⟨rfl, HB⟩ := hrel
    go_wp2
    go_ret
    exact ⟨rfl, HB.out⟩
theorem api_Value.idx (g : Nat) (lb : Array Value) (eg : ∀ args w, (callFunc g args).run Tryz.prog w = .ok (.enter g args) w) (p : S41 → Bool) (A : Option Addr) (c : Nat) (l : List S41) (w : World) (hr : Kd.C k41 w A l.length l) (hbig : l.length ≤ 9223372036854775807)
    (hp : ∀ (W : World) (x : S41), Below w.heap.size w W → Calls Tryz.prog g (#[.agg (api_Value.cs x).toArray] ++ lb) W fun e w' => e = .returned (.bool (p x)) ∧ Below w.heap.size w w') :
    Calls Tryz.prog 53 #[.slice A l.length c, .func (.func g) #[] lb] w fun e w' => e = .returned (.int .i64 (Lib.idxBy (fun _ y => p y) l z41)) ∧ Below w.heap.size w w' := by
  by_cases hl : 0 < l.length
  · obtain ⟨b, off, rfl, hb, hc⟩ := api_Value.spread hr hl
    have := @AnyQ.slices_IndexFunc Tryz.prog Tryz.laysQ53_ren S41 ⟨z41⟩ Tryz.laysQ53 5 Tryz.isAgg41 Tryz.sizeOf41 api_Value.cs (fun _ => rfl) p g lb eg b off l.length c l w hp (Nat.le_refl _) hbig hb (fun j hj i v hi => hc j hj i v (by rw [api_Value.getBang ⟨z41⟩ l j hj z41] at hi; exact hi))
    rw [List.take_length] at this
    exact this
  · obtain rfl := List.eq_nil_of_length_eq_zero (show l.length = 0 by omega)
    exact api_Value.idx0 g lb A c w
set_option maxHeartbeats 4000000 in
theorem api_Value.tot (a0_0 : Int) (a0_1 : Int) (a0_2 : Bool) (a0_3 : Int) (a0_4 : ByteArray) : ∃ b, colonnadelaw11_SchemaAgain_1.f a0_0 a0_1 a0_2 a0_3 a0_4 = some b := by
  unfold colonnadelaw11_SchemaAgain_1.f
  split
  · exact ⟨_, rfl⟩
  · have : ∃ c, colonnaderef02_Check.f a0_0 a0_1 a0_2 a0_3 a0_4 = some c := by
      unfold colonnaderef02_Check.f colonnaderef02_CheckType.f colonnaderef01_Fits.f
      (repeat' split) <;> simp only [Option.bind_some] <;> (repeat' split) <;> exact ⟨_, rfl⟩
    obtain ⟨c, hc⟩ := this
    rw [hc]
    exact ⟨_, rfl⟩
def api_Value.p (x : S41) : Bool := (colonnadelaw11_SchemaAgain_1.f x.f0.f0 x.f0.f1 x.f1 x.f2 x.f3).getD false
theorem api_Value.p_is (x : S41) : colonnadelaw11_SchemaAgain_1.f x.f0.f0 x.f0.f1 x.f1 x.f2 x.f3 = some (api_Value.p x) := by
  obtain ⟨b, hb⟩ := api_Value.tot x.f0.f0 x.f0.f1 x.f1 x.f2 x.f3
  unfold api_Value.p
  rw [hb]; rfl
def api_Value.f (l0 : List S41) : Option Bool := if l0.length ≤ 9223372036854775807 then some (l0.any api_Value.p) else none
set_option maxHeartbeats 8000000 in
set_option maxRecDepth 100000 in
theorem api_Value.calls (A0 : Option Addr) (c0 : Nat) (l0 : List S41) (r : Bool) (w : World) (hr0 : Kd.C k41 w A0 l0.length l0) (hc0 : l0.length ≤ c0) (h : api_Value.f l0 = some r) :
    Calls Tryz.prog 19 #[.slice A0 l0.length c0, .func (.func 20) #[] #[]] w fun e w' => e = .returned (.bool r) ∧ Below w.heap.size w w' := by
  unfold api_Value.f at h
  by_cases hl : l0.length ≤ 9223372036854775807
  · rw [if_pos hl] at h
    obtain rfl := Option.some.inj h
    clear h
    have eg : ∀ args w, (callFunc 20 args).run Tryz.prog w = .ok (.enter 20 args) w := enters_of Tryz.func20 (by kernel_rfl) rfl
    have h := Aside0.mk (api_Value.idx 20 #[] eg api_Value.p A0 c0 l0 w hr0 hl (fun W x hb => (colonnadelaw11_SchemaAgain_1.calls x.f0.f0 x.f0.f1 x.f1 x.f2 x.f3 _ W (api_Value.p_is x)).mono (fun e w' (z : _ ∧ _) => ⟨z.1, below_step hb z.2⟩)))
    have e := Lib.idxBy_nonneg_iff (fun (_ : S41) (y : S41) => api_Value.p y) l0 z41
    generalize Lib.idxBy (fun (_ : S41) (y : S41) => api_Value.p y) l0 z41 = i at h e
    rw [show (l0.any api_Value.p) = (l0.any fun y => api_Value.p y) from rfl, ← e]
    clear e eg hr0 hl hc0
    go_enter Tryz.func19, Tryz.ntmps19
    go_wp2_with (go_at_call 53; refine h.out.mono ?_; rintro e w1 ⟨rfl, hb⟩; have HB1 := Aside0.mk hb; clear hb)
    go_ret
    exact ⟨rfl, HB1.out⟩
  · rw [if_neg hl] at h; exact absurd h (by simp)


end Go.Proofs.YtmeopdjdjmjngaaGreatDoor.G
