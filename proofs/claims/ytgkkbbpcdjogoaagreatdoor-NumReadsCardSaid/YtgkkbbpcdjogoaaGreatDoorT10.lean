/- PRINTED BY A PROGRAM OF THIS SESSION (px.py, over the kit's print): Lean functions with the answers of Go functions of the given program, and proofs that the Go code comes to these answers; each under the conditions that its theorem states. -/
import Derived.Test.YtgkkbbpcdjogoaaGreatDoorT0
import Derived.Test.YtgkkbbpcdjogoaaGreatDoorT1
import Derived.Test.YtgkkbbpcdjogoaaGreatDoorT9
namespace Go.Proofs.YtgkkbbpcdjogoaaGreatDoor.T
open Go.RowKit Go.Proofs.YtgkkbbpcdjogoaaGreatDoorW.PrintWords Go.Proofs.YtgkkbbpcdjogoaaGreatDoorW.PrintLast Go.Proofs.YtgkkbbpcdjogoaaGreatDoorW.PrintMore
attribute [local go_sem] max2_int min2_int max_two min_two max_three min_three max_four min_four   -- for this text's walks alone
set_option linter.unusedVariables false
set_option linter.unusedSimpArgs false

/-! ### num_ParseDay: function 8, by hand -/
def num_ParseDay.atoi (s : ByteArray) : Option Int := match Lib.atoiAll s.data.toList with | .ok v => some v | .range => none | _ => none
def num_ParseDay.day (k : Nat) (a0 : ByteArray) : Option (Int × Int) := (num_ParseDay.atoi (a0.extract 0 4)).bind fun y => (num_ParseDay.atoi (a0.extract 5 7)).bind fun m => (num_ParseDay.atoi (a0.extract 8 10)).bind fun d => num_Day.f k y m d
def num_ParseDay.f (k : Nat) (a0 : ByteArray) : Option (Int × Int) := if a0.size = 10 then (if bt a0 4 = 45 then (if bt a0 7 = 45 then ((num_digits.f ((a0.extract 0 4 ++ a0.extract 5 7) ++ a0.extract 8 10)).bind fun t => if t = true then num_ParseDay.day k a0 else some (0, 12)) else some (0, 12)) else some (0, 12)) else some (0, 12)
theorem num_ParseDay.mono : ∀ a0 k, LeO (num_ParseDay.f k a0) (num_ParseDay.f (k + 1) a0) := by
  intro a0 k
  unfold num_ParseDay.f num_ParseDay.day
  repeat' first
      | (with_reducible exact num_Day.mono _ _ _ _)
      | (with_reducible exact LeO.refl _)
      | (with_reducible exact LeO.none _)
      | (with_reducible refine LeO.ite ?_ ?_)
      | (with_reducible refine LeO.bind ?_ (fun _ => ?_))
      | exact num_Day.mono _ _ _ _
theorem num_ParseDay.aOk (s : ByteArray) (v : Int) (w : World) (hs : s.size ≤ 9223372036854775806) (h : num_ParseDay.atoi s = some v) :
    Calls Tryz.prog 19 #[.string s] w fun e w' => e = .returned (.tuple #[.int .i64 v, .nilIface]) ∧ Below w.heap.size w w' := by
  unfold num_ParseDay.atoi at h
  cases hq : Lib.atoiAll s.data.toList with
  | ok u =>
    rw [hq] at h
    obtain rfl := Option.some.inj h
    refine (Tryz.strconv_Atoi_ok s hs u hq w).mono ?_
    rintro e w' ⟨rfl, hw⟩
    refine ⟨rfl, ?_⟩
    rcases hw with rfl | ⟨t, rfl⟩
    · exact Below.refl _ _
    · exact Joins.below_bytesWorld _ _ _ _ (Nat.le_refl _)
  | range => rw [hq] at h; exact absurd h (by simp)
  | _ => rw [hq] at h; exact absurd h (by simp)
set_option maxHeartbeats 8000000 in
set_option maxRecDepth 100000 in
theorem num_ParseDay.no0 (a0 : ByteArray) (w : World) (cz : ¬ a0.size = 10) :
    Calls Tryz.prog 8 #[.string a0] w fun e w' => e = .returned (.tuple #[.int .i64 0, .int .i64 12]) ∧ Below w.heap.size w w' := by
  have HB := Aside0.mk (Below.refl w.heap.size w)
  have z0 : ((a0.size : Int) == 10) = false := beq_eq_false_iff_ne.mpr (by omega)
  have z1 : ((a0.size : Int) != 10) = true := bne_iff_ne.mpr (by omega)
  clear cz
  go_enter Tryz.func8, Tryz.ntmps8
  go_wp2
  go_quiet (fail)
  go_wp2
  go_ret2
  exact ⟨by first | rfl | (simp; done) | (simp [*]; done), (by repeat (first | (with_reducible first | exact HB.out | apply below_alloc | apply pw_below_drewN | apply below_drew1) | exact HB.out))⟩
set_option maxHeartbeats 8000000 in
set_option maxRecDepth 100000 in
theorem num_ParseDay.no1 (a0 : ByteArray) (w : World) (cz : a0.size = 10) (c4 : ¬ bt a0 4 = 45) :
    Calls Tryz.prog 8 #[.string a0] w fun e w' => e = .returned (.tuple #[.int .i64 0, .int .i64 12]) ∧ Below w.heap.size w w' := by
  have HB := Aside0.mk (Below.refl w.heap.size w)
  have z0 : ((a0.size : Int) == 10) = true := beq_iff_eq.mpr (by omega)
  have z1 : ((a0.size : Int) != 10) = false := bne_eq_false_iff_eq.mpr (by omega)
  have q4 : 4 < a0.size := by omega
  have hx4 : ∀ h : 4 < a0.size, ((a0[4]'h).toNat : Int) = bt a0 4 := bt_at a0 4
  have qi4 : (4 < (a0.size : Int)) = True := eq_true (by omega)
  replace q4 := eq_true q4
  have e4b0 : ((bt a0 4) == 45) = false := beq_eq_false_iff_ne.mpr c4
  have e4b1 : ((bt a0 4) != 45) = true := bne_iff_ne.mpr c4
  clear c4
  clear cz
  go_enter Tryz.func8, Tryz.ntmps8
  go_wp2
  go_quiet (fail)
  go_wp2
  go_ret2
  exact ⟨by first | rfl | (simp; done) | (simp [*]; done), (by repeat (first | (with_reducible first | exact HB.out | apply below_alloc | apply pw_below_drewN | apply below_drew1) | exact HB.out))⟩
set_option maxHeartbeats 8000000 in
set_option maxRecDepth 100000 in
theorem num_ParseDay.no2 (a0 : ByteArray) (w : World) (cz : a0.size = 10) (c4 : bt a0 4 = 45) (c7 : ¬ bt a0 7 = 45) :
    Calls Tryz.prog 8 #[.string a0] w fun e w' => e = .returned (.tuple #[.int .i64 0, .int .i64 12]) ∧ Below w.heap.size w w' := by
  have HB := Aside0.mk (Below.refl w.heap.size w)
  have z0 : ((a0.size : Int) == 10) = true := beq_iff_eq.mpr (by omega)
  have z1 : ((a0.size : Int) != 10) = false := bne_eq_false_iff_eq.mpr (by omega)
  have q4 : 4 < a0.size := by omega
  have hx4 : ∀ h : 4 < a0.size, ((a0[4]'h).toNat : Int) = bt a0 4 := bt_at a0 4
  have qi4 : (4 < (a0.size : Int)) = True := eq_true (by omega)
  replace q4 := eq_true q4
  have e4b0 : ((bt a0 4) == 45) = true := beq_iff_eq.mpr c4
  have e4b1 : ((bt a0 4) != 45) = false := bne_eq_false_iff_eq.mpr c4
  clear c4
  have q7 : 7 < a0.size := by omega
  have hx7 : ∀ h : 7 < a0.size, ((a0[7]'h).toNat : Int) = bt a0 7 := bt_at a0 7
  have qi7 : (7 < (a0.size : Int)) = True := eq_true (by omega)
  replace q7 := eq_true q7
  have e7b0 : ((bt a0 7) == 45) = false := beq_eq_false_iff_ne.mpr c7
  have e7b1 : ((bt a0 7) != 45) = true := bne_iff_ne.mpr c7
  clear c7
  clear cz
  go_enter Tryz.func8, Tryz.ntmps8
  go_wp2
  go_quiet (fail)
  go_wp2
  go_ret2
  exact ⟨by first | rfl | (simp; done) | (simp [*]; done), (by repeat (first | (with_reducible first | exact HB.out | apply below_alloc | apply pw_below_drewN | apply below_drew1) | exact HB.out))⟩
set_option maxHeartbeats 8000000 in
set_option maxRecDepth 100000 in
theorem num_ParseDay.no3 (a0 : ByteArray) (w : World) (cz : a0.size = 10) (c4 : bt a0 4 = 45) (c7 : bt a0 7 = 45) (h1 : num_digits.f ((a0.extract 0 4 ++ a0.extract 5 7) ++ a0.extract 8 10) = some false) :
    Calls Tryz.prog 8 #[.string a0] w fun e w' => e = .returned (.tuple #[.int .i64 0, .int .i64 12]) ∧ Below w.heap.size w w' := by
  have HB := Aside0.mk (Below.refl w.heap.size w)
  have A1 := Aside0.mk h1
  clear h1
  have z0 : ((a0.size : Int) == 10) = true := beq_iff_eq.mpr (by omega)
  have z1 : ((a0.size : Int) != 10) = false := bne_eq_false_iff_eq.mpr (by omega)
  have q4 : 4 < a0.size := by omega
  have hx4 : ∀ h : 4 < a0.size, ((a0[4]'h).toNat : Int) = bt a0 4 := bt_at a0 4
  have qi4 : (4 < (a0.size : Int)) = True := eq_true (by omega)
  replace q4 := eq_true q4
  have e4b0 : ((bt a0 4) == 45) = true := beq_iff_eq.mpr c4
  have e4b1 : ((bt a0 4) != 45) = false := bne_eq_false_iff_eq.mpr c4
  clear c4
  have q7 : 7 < a0.size := by omega
  have hx7 : ∀ h : 7 < a0.size, ((a0[7]'h).toNat : Int) = bt a0 7 := bt_at a0 7
  have qi7 : (7 < (a0.size : Int)) = True := eq_true (by omega)
  replace q7 := eq_true q7
  have e7b0 : ((bt a0 7) == 45) = true := beq_iff_eq.mpr c7
  have e7b1 : ((bt a0 7) != 45) = false := bne_eq_false_iff_eq.mpr c7
  clear c7
  have s4 : ((4 : Int) ≤ (a0.size : Int)) = True := eq_true (by omega)
  have t4 : (4 ≤ a0.size) = True := eq_true (by omega)
  have s5 : ((5 : Int) ≤ (a0.size : Int)) = True := eq_true (by omega)
  have t5 : (5 ≤ a0.size) = True := eq_true (by omega)
  have s7 : ((7 : Int) ≤ (a0.size : Int)) = True := eq_true (by omega)
  have t7 : (7 ≤ a0.size) = True := eq_true (by omega)
  have s8 : ((8 : Int) ≤ (a0.size : Int)) = True := eq_true (by omega)
  have t8 : (8 ≤ a0.size) = True := eq_true (by omega)
  have s10 : a0.size = 10 := cz
  clear cz
  go_enter Tryz.func8, Tryz.ntmps8
  go_wp2
  go_still_tail 22, (by kernel_rfl)
  change wpList _ _ _ _ _ w.drew
  go_wp2_with (first | (go_at_call 11; (with_reducible refine (num_digits.calls ((a0.extract 0 4 ++ a0.extract 5 7) ++ a0.extract 8 10) false _ A1.out).mono ?_); rintro e w8 ⟨rfl, hb⟩; have n0_ := Aside0.mk (below_step (by repeat (first | (with_reducible first | exact HB.out | apply below_alloc | apply pw_below_drewN | apply below_drew1) | exact HB.out)) hb); clear HB; have HB := n0_; clear n0_; clear hb))
  go_ret2
  exact ⟨by first | rfl | (simp; done) | (simp [*]; done), (by repeat (first | (with_reducible first | exact HB.out | apply below_alloc | apply pw_below_drewN | apply below_drew1) | exact HB.out))⟩
set_option maxHeartbeats 8000000 in
set_option maxRecDepth 100000 in
theorem num_ParseDay.yes (k : Nat) (a0 : ByteArray) (y m d r1 r2 : Int) (w : World) (cz : a0.size = 10) (c4 : bt a0 4 = 45) (c7 : bt a0 7 = 45) (h1 : num_digits.f ((a0.extract 0 4 ++ a0.extract 5 7) ++ a0.extract 8 10) = some true) (h2 : num_ParseDay.atoi (a0.extract 0 4) = some y) (h3 : num_ParseDay.atoi (a0.extract 5 7) = some m) (h4 : num_ParseDay.atoi (a0.extract 8 10) = some d) (h5 : num_Day.f k y m d = some (r1, r2)) :
    Calls Tryz.prog 8 #[.string a0] w fun e w' => e = .returned (.tuple #[.int .i64 r1, .int .i64 r2]) ∧ Below w.heap.size w w' := by
  have HB := Aside0.mk (Below.refl w.heap.size w)
  have A1 := Aside0.mk h1
  have A2 := Aside0.mk h2
  have A3 := Aside0.mk h3
  have A4 := Aside0.mk h4
  have A5 := Aside0.mk h5
  clear h1 h2 h3 h4 h5
  have z0 : ((a0.size : Int) == 10) = true := beq_iff_eq.mpr (by omega)
  have z1 : ((a0.size : Int) != 10) = false := bne_eq_false_iff_eq.mpr (by omega)
  have q4 : 4 < a0.size := by omega
  have hx4 : ∀ h : 4 < a0.size, ((a0[4]'h).toNat : Int) = bt a0 4 := bt_at a0 4
  have qi4 : (4 < (a0.size : Int)) = True := eq_true (by omega)
  replace q4 := eq_true q4
  have e4b0 : ((bt a0 4) == 45) = true := beq_iff_eq.mpr c4
  have e4b1 : ((bt a0 4) != 45) = false := bne_eq_false_iff_eq.mpr c4
  clear c4
  have q7 : 7 < a0.size := by omega
  have hx7 : ∀ h : 7 < a0.size, ((a0[7]'h).toNat : Int) = bt a0 7 := bt_at a0 7
  have qi7 : (7 < (a0.size : Int)) = True := eq_true (by omega)
  replace q7 := eq_true q7
  have e7b0 : ((bt a0 7) == 45) = true := beq_iff_eq.mpr c7
  have e7b1 : ((bt a0 7) != 45) = false := bne_eq_false_iff_eq.mpr c7
  clear c7
  have s4 : ((4 : Int) ≤ (a0.size : Int)) = True := eq_true (by omega)
  have t4 : (4 ≤ a0.size) = True := eq_true (by omega)
  have s5 : ((5 : Int) ≤ (a0.size : Int)) = True := eq_true (by omega)
  have t5 : (5 ≤ a0.size) = True := eq_true (by omega)
  have s7 : ((7 : Int) ≤ (a0.size : Int)) = True := eq_true (by omega)
  have t7 : (7 ≤ a0.size) = True := eq_true (by omega)
  have s8 : ((8 : Int) ≤ (a0.size : Int)) = True := eq_true (by omega)
  have t8 : (8 ≤ a0.size) = True := eq_true (by omega)
  have s10 : a0.size = 10 := cz
  clear cz
  go_enter Tryz.func8, Tryz.ntmps8
  go_wp2
  go_still_tail 22, (by kernel_rfl)
  change wpList _ _ _ _ _ w.drew
  go_wp2_with (first | (go_at_call 11; (with_reducible refine (num_digits.calls ((a0.extract 0 4 ++ a0.extract 5 7) ++ a0.extract 8 10) true _ A1.out).mono ?_); rintro e w8 ⟨rfl, hb⟩; have n0_ := Aside0.mk (below_step (by repeat (first | (with_reducible first | exact HB.out | apply below_alloc | apply pw_below_drewN | apply below_drew1) | exact HB.out)) hb); clear HB; have HB := n0_; clear n0_; clear hb) | (go_at_call 19; (with_reducible refine (num_ParseDay.aOk (a0.extract 0 4) y _ (by simp [ByteArray.size_extract]; omega) A2.out).mono ?_); rintro e w9 ⟨rfl, hb⟩; have n0_ := Aside0.mk (below_step (by repeat (first | (with_reducible first | exact HB.out | apply below_alloc | apply pw_below_drewN | apply below_drew1) | exact HB.out)) hb); clear HB; have HB := n0_; clear n0_; clear hb) | (go_at_call 19; (with_reducible refine (num_ParseDay.aOk (a0.extract 5 7) m _ (by simp [ByteArray.size_extract]; omega) A3.out).mono ?_); rintro e w7 ⟨rfl, hb⟩; have n0_ := Aside0.mk (below_step (by repeat (first | (with_reducible first | exact HB.out | apply below_alloc | apply pw_below_drewN | apply below_drew1) | exact HB.out)) hb); clear HB; have HB := n0_; clear n0_; clear hb) | (go_at_call 19; (with_reducible refine (num_ParseDay.aOk (a0.extract 8 10) d _ (by simp [ByteArray.size_extract]; omega) A4.out).mono ?_); rintro e w6 ⟨rfl, hb⟩; have n0_ := Aside0.mk (below_step (by repeat (first | (with_reducible first | exact HB.out | apply below_alloc | apply pw_below_drewN | apply below_drew1) | exact HB.out)) hb); clear HB; have HB := n0_; clear n0_; clear hb) | (go_at_call 20; (with_reducible refine (num_Day.calls k y m d r1 r2 _ A5.out).mono ?_); rintro e w' ⟨rfl, ⟨nd, rfl⟩⟩; (try first | exact ⟨rfl, _, World.drewN_drewN _ _ _⟩ | exact ⟨rfl, _, Eq.trans (World.drewN_drewN _ _ _) (congrArg (World.drewN _) (Nat.add_assoc _ _ _))⟩)))
  go_ret2
  exact ⟨by first | rfl | (simp; done) | (simp [*]; done), (by repeat (first | (with_reducible first | exact HB.out | apply below_alloc | apply pw_below_drewN | apply below_drew1) | exact HB.out))⟩
theorem num_ParseDay.calls (k : Nat) (a0 : ByteArray) (r1 : Int) (r2 : Int) (w : World) (h : num_ParseDay.f k a0 = some (r1, r2)) :
    Calls Tryz.prog 8 #[.string a0] w fun e w' => e = .returned (.tuple #[.int .i64 r1, .int .i64 r2]) ∧ Below w.heap.size w w' := by
  have bad : some ((0 : Int), (12 : Int)) = some (r1, r2) → r1 = 0 ∧ r2 = 12 := fun q => by
    simp only [Option.some.injEq, Prod.mk.injEq] at q
    exact ⟨q.1.symm, q.2.symm⟩
  unfold num_ParseDay.f at h
  by_cases cz : a0.size = 10
  · rw [if_pos cz] at h
    by_cases c4 : bt a0 4 = 45
    · rw [if_pos c4] at h
      by_cases c7 : bt a0 7 = 45
      · rw [if_pos c7] at h
        obtain ⟨t, h1, h⟩ := Option.bind_eq_some_iff.mp h
        cases t with
        | true =>
          rw [if_pos rfl] at h
          unfold num_ParseDay.day at h
          obtain ⟨y, h2, h⟩ := Option.bind_eq_some_iff.mp h
          obtain ⟨m, h3, h⟩ := Option.bind_eq_some_iff.mp h
          obtain ⟨d, h4, h⟩ := Option.bind_eq_some_iff.mp h
          exact num_ParseDay.yes k a0 y m d r1 r2 w cz c4 c7 h1 h2 h3 h4 h
        | false =>
          rw [if_neg (by simp)] at h
          obtain ⟨rfl, rfl⟩ := bad h
          exact num_ParseDay.no3 a0 w cz c4 c7 h1
      · rw [if_neg c7] at h
        obtain ⟨rfl, rfl⟩ := bad h
        exact num_ParseDay.no2 a0 w cz c4 c7
    · rw [if_neg c4] at h
      obtain ⟨rfl, rfl⟩ := bad h
      exact num_ParseDay.no1 a0 w cz c4
  · rw [if_neg cz] at h
    obtain ⟨rfl, rfl⟩ := bad h
    exact num_ParseDay.no0 a0 w cz


/-! ### colonnaderef01_leap: function 53 -/
def colonnaderef01_leap.f (a0 : Int) : Option (Bool) := if (Int.tmod a0 4) = 0 then (if (Int.tmod a0 100) = 0 then (some ((Int.tmod a0 400) == 0)) else (some true)) else (some false)
set_option maxHeartbeats 8000000 in
set_option maxRecDepth 100000 in
theorem colonnaderef01_leap.calls (a0 : Int) (r : Bool) (w : World) (h : colonnaderef01_leap.f a0 = some r) :
    Calls Tryz.prog 53 #[.int .i64 a0] w fun e w' => e = .returned (.bool r) ∧ Drawn0 w w' := by
  have H : (if (Int.tmod a0 4) = 0 then (if (Int.tmod a0 100) = 0 then (some ((Int.tmod a0 400) == 0)) else (some true)) else (some false)) = some r := h
  clear h
  by_cases c2 : (Int.tmod a0 4) = 0
  · rw [if_pos c2] at H
    have c2b0 : ((Int.tmod a0 4) == 0) = true := beq_iff_eq.mpr c2
    have c2b1 : ((Int.tmod a0 4) != 0) = false := bne_eq_false_iff_eq.mpr c2
    clear c2
    by_cases c3 : (Int.tmod a0 100) = 0
    · rw [if_pos c3] at H
      have c3b0 : ((Int.tmod a0 100) == 0) = true := beq_iff_eq.mpr c3
      have c3b1 : ((Int.tmod a0 100) != 0) = false := bne_eq_false_iff_eq.mpr c3
      clear c3
      obtain rfl := Option.some.inj H
      go_enter Tryz.func53, Tryz.ntmps53
      go_wp2
      go_ret
      exact ⟨by first | rfl | (simp; done) | (simp [*]; done), by repeat (first | exact Drawn0.refl _ | apply Drawn0.step)⟩
    · rw [if_neg c3] at H
      have c3b0 : ((Int.tmod a0 100) == 0) = false := beq_eq_false_iff_ne.mpr c3
      have c3b1 : ((Int.tmod a0 100) != 0) = true := bne_iff_ne.mpr c3
      obtain rfl := Option.some.inj H
      go_enter Tryz.func53, Tryz.ntmps53
      go_wp2
      go_ret
      exact ⟨by first | rfl | (simp; done) | (simp [*]; done), by repeat (first | exact Drawn0.refl _ | apply Drawn0.step)⟩
  · rw [if_neg c2] at H
    have c2b0 : ((Int.tmod a0 4) == 0) = false := beq_eq_false_iff_ne.mpr c2
    have c2b1 : ((Int.tmod a0 4) != 0) = true := bne_iff_ne.mpr c2
    obtain rfl := Option.some.inj H
    go_enter Tryz.func53, Tryz.ntmps53
    go_wp2
    go_ret
    exact ⟨by first | rfl | (simp; done) | (simp [*]; done), by repeat (first | exact Drawn0.refl _ | apply Drawn0.step)⟩

end Go.Proofs.YtgkkbbpcdjogoaaGreatDoor.T
