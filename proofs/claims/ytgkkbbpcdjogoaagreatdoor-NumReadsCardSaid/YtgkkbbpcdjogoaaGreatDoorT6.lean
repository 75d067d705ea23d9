/- PRINTED BY A PROGRAM OF THIS SESSION (px.py, over the kit's print): Lean functions with the answers of Go functions of the given program, and proofs that the Go code comes to these answers; each under the conditions that its theorem states. -/
import Derived.Test.YtgkkbbpcdjogoaaGreatDoorT0
import Derived.Test.YtgkkbbpcdjogoaaGreatDoorT1
import Derived.Test.YtgkkbbpcdjogoaaGreatDoorT5
namespace Go.Proofs.YtgkkbbpcdjogoaaGreatDoor.T
open Go.RowKit Go.Proofs.YtgkkbbpcdjogoaaGreatDoorW.PrintWords Go.Proofs.YtgkkbbpcdjogoaaGreatDoorW.PrintLast Go.Proofs.YtgkkbbpcdjogoaaGreatDoorW.PrintMore
attribute [local go_sem] max2_int min2_int max_two min_two max_three min_three max_four min_four   -- for this text's walks alone
set_option linter.unusedVariables false
set_option linter.unusedSimpArgs false

/-! ### num_ParseDec: function 6, by hand -/
def num_ParseDec.fin (a0 wh pt : ByteArray) : Option (Int × Int × Int) := if wh.size + pt.size ≤ 281474976710656 then (match Lib.parseIntB 64 (wh ++ pt).data.toList with | .range => some (0, 0, 10) | .ok v => (num_Fits.f v).bind fun ft => if ft = true then (if 0 < a0.size then (if bt a0 0 = 45 then some (wrap64 (-v), (pt.size : Int), 0) else some (v, (pt.size : Int), 0)) else none) else some (0, 0, 10) | _ => none) else none
def num_ParseDec.f (a0 : ByteArray) : Option (Int × Int × Int) := (strings_TrimPrefix.f a0 (⟨#[45]⟩ : ByteArray)).bind fun t => (strings_Cut.f t (⟨#[46]⟩ : ByteArray)).bind fun c => (num_digits.f c.1).bind fun d1 => if d1 = true then (if c.2.2 = true then ((num_digits.f c.2.1).bind fun d2 => if d2 = true then (if c.2.1.size ≤ 18 then num_ParseDec.fin a0 c.1 c.2.1 else some (0, 0, 10)) else some (0, 0, 12)) else (if c.2.1.size ≤ 18 then num_ParseDec.fin a0 c.1 c.2.1 else none)) else some (0, 0, 12)
set_option maxHeartbeats 8000000 in
set_option maxRecDepth 100000 in
theorem num_ParseDec.no1 (a0 t wh pt : ByteArray) (b : Bool) (w : World) (hG : Gl w) (h1 : strings_TrimPrefix.f a0 (⟨#[45]⟩ : ByteArray) = some t) (h2 : strings_Cut.f t (⟨#[46]⟩ : ByteArray) = some (wh, pt, b)) (h3 : num_digits.f wh = some false) :
    Calls Tryz.prog 6 #[.string a0] w fun e w' => e = .returned (.tuple #[.int .i64 0, .int .i64 0, .int .i64 12]) ∧ Below w.heap.size w w' := by
  have HB := Aside0.mk (Below.refl w.heap.size w)
  have HG := Aside0.mk hG
  have A1 := Aside0.mk h1
  have A2 := Aside0.mk h2
  have A3 := Aside0.mk h3
  clear hG h1 h2 h3
  go_enter Tryz.func6, Tryz.ntmps6
  go_wp2_with (first | (go_at_call 12; (with_reducible refine (strings_TrimPrefix.calls a0 (⟨#[45]⟩ : ByteArray) t _ A1.out).mono ?_); rintro e w' ⟨rfl, ⟨nd, rfl⟩⟩; (try first | exact ⟨rfl, _, World.drewN_drewN _ _ _⟩ | exact ⟨rfl, _, Eq.trans (World.drewN_drewN _ _ _) (congrArg (World.drewN _) (Nat.add_assoc _ _ _))⟩)) | (go_at_call 17; (with_reducible refine (strings_Cut.calls t (⟨#[46]⟩ : ByteArray) wh pt b _ A2.out).mono ?_); rintro e w' ⟨rfl, ⟨nd, rfl⟩⟩; (try first | exact ⟨rfl, _, World.drewN_drewN _ _ _⟩ | exact ⟨rfl, _, Eq.trans (World.drewN_drewN _ _ _) (congrArg (World.drewN _) (Nat.add_assoc _ _ _))⟩)) | (go_at_call 11; (with_reducible refine (num_digits.calls wh false _ A3.out).mono ?_); rintro e w8 ⟨rfl, hb⟩; have n0_ := Aside0.mk (below_step (by repeat (first | (with_reducible first | exact HB.out | apply below_alloc | apply pw_below_drewN | apply below_drew1) | exact HB.out)) hb); clear HB; have HB := n0_; clear n0_; clear hb))
  go_ret3
  exact ⟨by first | rfl | (simp; done) | (simp [*]; done), (by repeat (first | (with_reducible first | exact HB.out | apply below_alloc | apply pw_below_drewN | apply below_drew1) | exact HB.out))⟩
set_option maxHeartbeats 8000000 in
set_option maxRecDepth 100000 in
theorem num_ParseDec.no2 (a0 t wh pt : ByteArray) (w : World) (hG : Gl w) (h1 : strings_TrimPrefix.f a0 (⟨#[45]⟩ : ByteArray) = some t) (h2 : strings_Cut.f t (⟨#[46]⟩ : ByteArray) = some (wh, pt, true)) (h3 : num_digits.f wh = some true) (h5 : num_digits.f pt = some false) :
    Calls Tryz.prog 6 #[.string a0] w fun e w' => e = .returned (.tuple #[.int .i64 0, .int .i64 0, .int .i64 12]) ∧ Below w.heap.size w w' := by
  have HB := Aside0.mk (Below.refl w.heap.size w)
  have HG := Aside0.mk hG
  have A1 := Aside0.mk h1
  have A2 := Aside0.mk h2
  have A3 := Aside0.mk h3
  have A5 := Aside0.mk h5
  clear hG h1 h2 h3 h5
  go_enter Tryz.func6, Tryz.ntmps6
  go_wp2_with (first | (go_at_call 12; (with_reducible refine (strings_TrimPrefix.calls a0 (⟨#[45]⟩ : ByteArray) t _ A1.out).mono ?_); rintro e w' ⟨rfl, ⟨nd, rfl⟩⟩; (try first | exact ⟨rfl, _, World.drewN_drewN _ _ _⟩ | exact ⟨rfl, _, Eq.trans (World.drewN_drewN _ _ _) (congrArg (World.drewN _) (Nat.add_assoc _ _ _))⟩)) | (go_at_call 17; (with_reducible refine (strings_Cut.calls t (⟨#[46]⟩ : ByteArray) wh pt true _ A2.out).mono ?_); rintro e w' ⟨rfl, ⟨nd, rfl⟩⟩; (try first | exact ⟨rfl, _, World.drewN_drewN _ _ _⟩ | exact ⟨rfl, _, Eq.trans (World.drewN_drewN _ _ _) (congrArg (World.drewN _) (Nat.add_assoc _ _ _))⟩)) | (go_at_call 11; (with_reducible refine (num_digits.calls wh true _ A3.out).mono ?_); rintro e w8 ⟨rfl, hb⟩; have n0_ := Aside0.mk (below_step (by repeat (first | (with_reducible first | exact HB.out | apply below_alloc | apply pw_below_drewN | apply below_drew1) | exact HB.out)) hb); clear HB; have HB := n0_; clear n0_; clear hb) | (go_at_call 11; (with_reducible refine (num_digits.calls pt false _ A5.out).mono ?_); rintro e w7 ⟨rfl, hb⟩; have n0_ := Aside0.mk (below_step (by repeat (first | (with_reducible first | exact HB.out | apply below_alloc | apply pw_below_drewN | apply below_drew1) | exact HB.out)) hb); clear HB; have HB := n0_; clear n0_; clear hb))
  go_ret3
  exact ⟨by first | rfl | (simp; done) | (simp [*]; done), (by repeat (first | (with_reducible first | exact HB.out | apply below_alloc | apply pw_below_drewN | apply below_drew1) | exact HB.out))⟩
set_option maxHeartbeats 8000000 in
set_option maxRecDepth 100000 in
theorem num_ParseDec.long (a0 t wh pt : ByteArray) (w : World) (hG : Gl w) (h1 : strings_TrimPrefix.f a0 (⟨#[45]⟩ : ByteArray) = some t) (h2 : strings_Cut.f t (⟨#[46]⟩ : ByteArray) = some (wh, pt, true)) (h3 : num_digits.f wh = some true) (h5 : num_digits.f pt = some true) (c1 : ¬ pt.size ≤ 18) :
    Calls Tryz.prog 6 #[.string a0] w fun e w' => e = .returned (.tuple #[.int .i64 0, .int .i64 0, .int .i64 10]) ∧ Below w.heap.size w w' := by
  have HB := Aside0.mk (Below.refl w.heap.size w)
  have HG := Aside0.mk hG
  have A1 := Aside0.mk h1
  have A2 := Aside0.mk h2
  have A3 := Aside0.mk h3
  have A5 := Aside0.mk h5
  clear hG h1 h2 h3 h5
  have c1b0 : decide ((pt.size : Int) > 18) = true := decide_eq_true (by omega)
  have c1b1 : decide (18 < (pt.size : Int)) = true := decide_eq_true (by omega)
  clear c1
  go_enter Tryz.func6, Tryz.ntmps6
  go_wp2_with (first | (go_at_call 12; (with_reducible refine (strings_TrimPrefix.calls a0 (⟨#[45]⟩ : ByteArray) t _ A1.out).mono ?_); rintro e w' ⟨rfl, ⟨nd, rfl⟩⟩; (try first | exact ⟨rfl, _, World.drewN_drewN _ _ _⟩ | exact ⟨rfl, _, Eq.trans (World.drewN_drewN _ _ _) (congrArg (World.drewN _) (Nat.add_assoc _ _ _))⟩)) | (go_at_call 17; (with_reducible refine (strings_Cut.calls t (⟨#[46]⟩ : ByteArray) wh pt true _ A2.out).mono ?_); rintro e w' ⟨rfl, ⟨nd, rfl⟩⟩; (try first | exact ⟨rfl, _, World.drewN_drewN _ _ _⟩ | exact ⟨rfl, _, Eq.trans (World.drewN_drewN _ _ _) (congrArg (World.drewN _) (Nat.add_assoc _ _ _))⟩)) | (go_at_call 11; (with_reducible refine (num_digits.calls wh true _ A3.out).mono ?_); rintro e w8 ⟨rfl, hb⟩; have n0_ := Aside0.mk (below_step (by repeat (first | (with_reducible first | exact HB.out | apply below_alloc | apply pw_below_drewN | apply below_drew1) | exact HB.out)) hb); clear HB; have HB := n0_; clear n0_; clear hb) | (go_at_call 11; (with_reducible refine (num_digits.calls pt true _ A5.out).mono ?_); rintro e w7 ⟨rfl, hb⟩; have n0_ := Aside0.mk (below_step (by repeat (first | (with_reducible first | exact HB.out | apply below_alloc | apply pw_below_drewN | apply below_drew1) | exact HB.out)) hb); clear HB; have HB := n0_; clear n0_; clear hb))
  go_ret3
  exact ⟨by first | rfl | (simp; done) | (simp [*]; done), (by repeat (first | (with_reducible first | exact HB.out | apply below_alloc | apply pw_below_drewN | apply below_drew1) | exact HB.out))⟩
set_option maxHeartbeats 8000000 in
set_option maxRecDepth 100000 in
theorem num_ParseDec.fart (a0 t wh pt : ByteArray) (w : World) (hG : Gl w) (h1 : strings_TrimPrefix.f a0 (⟨#[45]⟩ : ByteArray) = some t) (h2 : strings_Cut.f t (⟨#[46]⟩ : ByteArray) = some (wh, pt, true)) (h3 : num_digits.f wh = some true) (h5 : num_digits.f pt = some true) (c1 : pt.size ≤ 18) (c2 : wh.size + pt.size ≤ 281474976710656) (h7 : Lib.parseIntB 64 (wh ++ pt).data.toList = .range) :
    Calls Tryz.prog 6 #[.string a0] w fun e w' => e = .returned (.tuple #[.int .i64 0, .int .i64 0, .int .i64 10]) ∧ Below w.heap.size w w' := by
  have HB := Aside0.mk (Below.refl w.heap.size w)
  have HG := Aside0.mk hG
  have A1 := Aside0.mk h1
  have A2 := Aside0.mk h2
  have A3 := Aside0.mk h3
  have A5 := Aside0.mk h5
  have A7 := Aside0.mk h7
  clear hG h1 h2 h3 h5 h7
  have c1b0 : decide ((pt.size : Int) > 18) = false := decide_eq_false (by omega)
  have c1b1 : decide (18 < (pt.size : Int)) = false := decide_eq_false (by omega)
  clear c1
  have A6 := Aside0.mk (show (wh ++ pt).size ≤ 281474976710656 from by rw [ByteArray.size_append]; exact c2)
  have c5 : wh.size + pt.size ≤ 9223372036854775807 := by omega
  have c5b0 := eq_true c5
  have c5b1 : decide (wh.size + pt.size ≤ 9223372036854775807) = true := decide_eq_true c5
  have c5b2 : (9223372036854775807 < wh.size + pt.size) = False := eq_false (Nat.not_lt.2 c5)
  clear c2
  go_enter Tryz.func6, Tryz.ntmps6
  go_wp2_with (first | (go_at_call 12; (with_reducible refine (strings_TrimPrefix.calls a0 (⟨#[45]⟩ : ByteArray) t _ A1.out).mono ?_); rintro e w' ⟨rfl, ⟨nd, rfl⟩⟩; (try first | exact ⟨rfl, _, World.drewN_drewN _ _ _⟩ | exact ⟨rfl, _, Eq.trans (World.drewN_drewN _ _ _) (congrArg (World.drewN _) (Nat.add_assoc _ _ _))⟩)) | (go_at_call 17; (with_reducible refine (strings_Cut.calls t (⟨#[46]⟩ : ByteArray) wh pt true _ A2.out).mono ?_); rintro e w' ⟨rfl, ⟨nd, rfl⟩⟩; (try first | exact ⟨rfl, _, World.drewN_drewN _ _ _⟩ | exact ⟨rfl, _, Eq.trans (World.drewN_drewN _ _ _) (congrArg (World.drewN _) (Nat.add_assoc _ _ _))⟩)) | (go_at_call 11; (with_reducible refine (num_digits.calls wh true _ A3.out).mono ?_); rintro e w8 ⟨rfl, hb⟩; have n0_ := Aside0.mk (below_step (by repeat (first | (with_reducible first | exact HB.out | apply below_alloc | apply pw_below_drewN | apply below_drew1) | exact HB.out)) hb); clear HB; have HB := n0_; clear n0_; clear hb) | (go_at_call 11; (with_reducible refine (num_digits.calls pt true _ A5.out).mono ?_); rintro e w7 ⟨rfl, hb⟩; have n0_ := Aside0.mk (below_step (by repeat (first | (with_reducible first | exact HB.out | apply below_alloc | apply pw_below_drewN | apply below_drew1) | exact HB.out)) hb); clear HB; have HB := n0_; clear n0_; clear hb) | (go_at_call 13; (with_reducible refine (num_ParseInt.pRan (wh ++ pt) _ A6.out A7.out (Gl.of HG.out (by repeat (first | (with_reducible first | exact HB.out | apply below_alloc | apply pw_below_drewN | apply below_drew1) | exact HB.out)))).mono ?_); rintro e w9 ⟨N, v, rfl, hb⟩; have n0_ := Aside0.mk (below_step (by repeat (first | (with_reducible first | exact HB.out | apply below_alloc | apply pw_below_drewN | apply below_drew1) | exact HB.out)) hb); clear HB; have HB := n0_; clear n0_; clear hb))
  go_ret3
  exact ⟨by first | rfl | (simp; done) | (simp [*]; done), (by repeat (first | (with_reducible first | exact HB.out | apply below_alloc | apply pw_below_drewN | apply below_drew1) | exact HB.out))⟩
set_option maxHeartbeats 8000000 in
set_option maxRecDepth 100000 in
theorem num_ParseDec.unfitt (a0 t wh pt : ByteArray) (v : Int) (w : World) (hG : Gl w) (h1 : strings_TrimPrefix.f a0 (⟨#[45]⟩ : ByteArray) = some t) (h2 : strings_Cut.f t (⟨#[46]⟩ : ByteArray) = some (wh, pt, true)) (h3 : num_digits.f wh = some true) (h5 : num_digits.f pt = some true) (c1 : pt.size ≤ 18) (c2 : wh.size + pt.size ≤ 281474976710656) (h7 : Lib.parseIntB 64 (wh ++ pt).data.toList = .ok v) (h9 : num_Fits.f v = some false) :
    Calls Tryz.prog 6 #[.string a0] w fun e w' => e = .returned (.tuple #[.int .i64 0, .int .i64 0, .int .i64 10]) ∧ Below w.heap.size w w' := by
  have HB := Aside0.mk (Below.refl w.heap.size w)
  have HG := Aside0.mk hG
  have A1 := Aside0.mk h1
  have A2 := Aside0.mk h2
  have A3 := Aside0.mk h3
  have A5 := Aside0.mk h5
  have A7 := Aside0.mk h7
  have A9 := Aside0.mk h9
  clear hG h1 h2 h3 h5 h7 h9
  have c1b0 : decide ((pt.size : Int) > 18) = false := decide_eq_false (by omega)
  have c1b1 : decide (18 < (pt.size : Int)) = false := decide_eq_false (by omega)
  clear c1
  have A6 := Aside0.mk (show (wh ++ pt).size ≤ 281474976710656 from by rw [ByteArray.size_append]; exact c2)
  have c5 : wh.size + pt.size ≤ 9223372036854775807 := by omega
  have c5b0 := eq_true c5
  have c5b1 : decide (wh.size + pt.size ≤ 9223372036854775807) = true := decide_eq_true c5
  have c5b2 : (9223372036854775807 < wh.size + pt.size) = False := eq_false (Nat.not_lt.2 c5)
  clear c2
  go_enter Tryz.func6, Tryz.ntmps6
  go_wp2_with (first | (go_at_call 12; (with_reducible refine (strings_TrimPrefix.calls a0 (⟨#[45]⟩ : ByteArray) t _ A1.out).mono ?_); rintro e w' ⟨rfl, ⟨nd, rfl⟩⟩; (try first | exact ⟨rfl, _, World.drewN_drewN _ _ _⟩ | exact ⟨rfl, _, Eq.trans (World.drewN_drewN _ _ _) (congrArg (World.drewN _) (Nat.add_assoc _ _ _))⟩)) | (go_at_call 17; (with_reducible refine (strings_Cut.calls t (⟨#[46]⟩ : ByteArray) wh pt true _ A2.out).mono ?_); rintro e w' ⟨rfl, ⟨nd, rfl⟩⟩; (try first | exact ⟨rfl, _, World.drewN_drewN _ _ _⟩ | exact ⟨rfl, _, Eq.trans (World.drewN_drewN _ _ _) (congrArg (World.drewN _) (Nat.add_assoc _ _ _))⟩)) | (go_at_call 11; (with_reducible refine (num_digits.calls wh true _ A3.out).mono ?_); rintro e w8 ⟨rfl, hb⟩; have n0_ := Aside0.mk (below_step (by repeat (first | (with_reducible first | exact HB.out | apply below_alloc | apply pw_below_drewN | apply below_drew1) | exact HB.out)) hb); clear HB; have HB := n0_; clear n0_; clear hb) | (go_at_call 11; (with_reducible refine (num_digits.calls pt true _ A5.out).mono ?_); rintro e w7 ⟨rfl, hb⟩; have n0_ := Aside0.mk (below_step (by repeat (first | (with_reducible first | exact HB.out | apply below_alloc | apply pw_below_drewN | apply below_drew1) | exact HB.out)) hb); clear HB; have HB := n0_; clear n0_; clear hb) | (go_at_call 13; (with_reducible refine (num_ParseInt.pOk (wh ++ pt) v _ A6.out A7.out).mono ?_); rintro e w9 ⟨rfl, hb⟩; have n0_ := Aside0.mk (below_step (by repeat (first | (with_reducible first | exact HB.out | apply below_alloc | apply pw_below_drewN | apply below_drew1) | exact HB.out)) hb); clear HB; have HB := n0_; clear n0_; clear hb) | (go_at_call 18; (with_reducible refine (num_Fits.calls v false _ A9.out).mono ?_); rintro e w' ⟨rfl, ⟨nd, rfl⟩⟩; (try first | exact ⟨rfl, _, World.drewN_drewN _ _ _⟩ | exact ⟨rfl, _, Eq.trans (World.drewN_drewN _ _ _) (congrArg (World.drewN _) (Nat.add_assoc _ _ _))⟩)))
  go_ret3
  exact ⟨by first | rfl | (simp; done) | (simp [*]; done), (by repeat (first | (with_reducible first | exact HB.out | apply below_alloc | apply pw_below_drewN | apply below_drew1) | exact HB.out))⟩
set_option maxHeartbeats 8000000 in
set_option maxRecDepth 100000 in
theorem num_ParseDec.negt (a0 t wh pt : ByteArray) (v : Int) (w : World) (hG : Gl w) (h1 : strings_TrimPrefix.f a0 (⟨#[45]⟩ : ByteArray) = some t) (h2 : strings_Cut.f t (⟨#[46]⟩ : ByteArray) = some (wh, pt, true)) (h3 : num_digits.f wh = some true) (h5 : num_digits.f pt = some true) (c1 : pt.size ≤ 18) (c2 : wh.size + pt.size ≤ 281474976710656) (h7 : Lib.parseIntB 64 (wh ++ pt).data.toList = .ok v) (h9 : num_Fits.f v = some true) (c3 : 0 < a0.size) (c4 : bt a0 0 = 45) :
    Calls Tryz.prog 6 #[.string a0] w fun e w' => e = .returned (.tuple #[.int .i64 (wrap64 (-v)), .int .i64 (pt.size : Int), .int .i64 0]) ∧ Below w.heap.size w w' := by
  have HB := Aside0.mk (Below.refl w.heap.size w)
  have HG := Aside0.mk hG
  have A1 := Aside0.mk h1
  have A2 := Aside0.mk h2
  have A3 := Aside0.mk h3
  have A5 := Aside0.mk h5
  have A7 := Aside0.mk h7
  have A9 := Aside0.mk h9
  clear hG h1 h2 h3 h5 h7 h9
  have c1b0 : decide ((pt.size : Int) > 18) = false := decide_eq_false (by omega)
  have c1b1 : decide (18 < (pt.size : Int)) = false := decide_eq_false (by omega)
  clear c1
  have A6 := Aside0.mk (show (wh ++ pt).size ≤ 281474976710656 from by rw [ByteArray.size_append]; exact c2)
  have c5 : wh.size + pt.size ≤ 9223372036854775807 := by omega
  have c5b0 := eq_true c5
  have c5b1 : decide (wh.size + pt.size ≤ 9223372036854775807) = true := decide_eq_true c5
  have c5b2 : (9223372036854775807 < wh.size + pt.size) = False := eq_false (Nat.not_lt.2 c5)
  clear c2
  have q5 : 0 < a0.size := c3
  have hx5 : ∀ h : 0 < a0.size, ((a0[0]'h).toNat : Int) = bt a0 0 := bt_at a0 0
  have qi5 : (0 < (a0.size : Int)) = True := eq_true (by omega)
  replace q5 := eq_true q5
  clear c3
  have c6b0 : ((bt a0 0) == 45) = true := beq_iff_eq.mpr c4
  have c6b1 : ((bt a0 0) != 45) = false := bne_eq_false_iff_eq.mpr c4
  clear c4
  go_enter Tryz.func6, Tryz.ntmps6
  go_wp2_with (first | (go_at_call 12; (with_reducible refine (strings_TrimPrefix.calls a0 (⟨#[45]⟩ : ByteArray) t _ A1.out).mono ?_); rintro e w' ⟨rfl, ⟨nd, rfl⟩⟩; (try first | exact ⟨rfl, _, World.drewN_drewN _ _ _⟩ | exact ⟨rfl, _, Eq.trans (World.drewN_drewN _ _ _) (congrArg (World.drewN _) (Nat.add_assoc _ _ _))⟩)) | (go_at_call 17; (with_reducible refine (strings_Cut.calls t (⟨#[46]⟩ : ByteArray) wh pt true _ A2.out).mono ?_); rintro e w' ⟨rfl, ⟨nd, rfl⟩⟩; (try first | exact ⟨rfl, _, World.drewN_drewN _ _ _⟩ | exact ⟨rfl, _, Eq.trans (World.drewN_drewN _ _ _) (congrArg (World.drewN _) (Nat.add_assoc _ _ _))⟩)) | (go_at_call 11; (with_reducible refine (num_digits.calls wh true _ A3.out).mono ?_); rintro e w8 ⟨rfl, hb⟩; have n0_ := Aside0.mk (below_step (by repeat (first | (with_reducible first | exact HB.out | apply below_alloc | apply pw_below_drewN | apply below_drew1) | exact HB.out)) hb); clear HB; have HB := n0_; clear n0_; clear hb) | (go_at_call 11; (with_reducible refine (num_digits.calls pt true _ A5.out).mono ?_); rintro e w7 ⟨rfl, hb⟩; have n0_ := Aside0.mk (below_step (by repeat (first | (with_reducible first | exact HB.out | apply below_alloc | apply pw_below_drewN | apply below_drew1) | exact HB.out)) hb); clear HB; have HB := n0_; clear n0_; clear hb) | (go_at_call 13; (with_reducible refine (num_ParseInt.pOk (wh ++ pt) v _ A6.out A7.out).mono ?_); rintro e w9 ⟨rfl, hb⟩; have n0_ := Aside0.mk (below_step (by repeat (first | (with_reducible first | exact HB.out | apply below_alloc | apply pw_below_drewN | apply below_drew1) | exact HB.out)) hb); clear HB; have HB := n0_; clear n0_; clear hb) | (go_at_call 18; (with_reducible refine (num_Fits.calls v true _ A9.out).mono ?_); rintro e w' ⟨rfl, ⟨nd, rfl⟩⟩; (try first | exact ⟨rfl, _, World.drewN_drewN _ _ _⟩ | exact ⟨rfl, _, Eq.trans (World.drewN_drewN _ _ _) (congrArg (World.drewN _) (Nat.add_assoc _ _ _))⟩)))
  go_ret3
  exact ⟨by first | rfl | (simp; done) | (simp [*]; done), (by repeat (first | (with_reducible first | exact HB.out | apply below_alloc | apply pw_below_drewN | apply below_drew1) | exact HB.out))⟩
set_option maxHeartbeats 8000000 in
set_option maxRecDepth 100000 in
theorem num_ParseDec.post (a0 t wh pt : ByteArray) (v : Int) (w : World) (hG : Gl w) (h1 : strings_TrimPrefix.f a0 (⟨#[45]⟩ : ByteArray) = some t) (h2 : strings_Cut.f t (⟨#[46]⟩ : ByteArray) = some (wh, pt, true)) (h3 : num_digits.f wh = some true) (h5 : num_digits.f pt = some true) (c1 : pt.size ≤ 18) (c2 : wh.size + pt.size ≤ 281474976710656) (h7 : Lib.parseIntB 64 (wh ++ pt).data.toList = .ok v) (h9 : num_Fits.f v = some true) (c3 : 0 < a0.size) (c4 : ¬ bt a0 0 = 45) :
    Calls Tryz.prog 6 #[.string a0] w fun e w' => e = .returned (.tuple #[.int .i64 v, .int .i64 (pt.size : Int), .int .i64 0]) ∧ Below w.heap.size w w' := by
  have HB := Aside0.mk (Below.refl w.heap.size w)
  have HG := Aside0.mk hG
  have A1 := Aside0.mk h1
  have A2 := Aside0.mk h2
  have A3 := Aside0.mk h3
  have A5 := Aside0.mk h5
  have A7 := Aside0.mk h7
  have A9 := Aside0.mk h9
  clear hG h1 h2 h3 h5 h7 h9
  have c1b0 : decide ((pt.size : Int) > 18) = false := decide_eq_false (by omega)
  have c1b1 : decide (18 < (pt.size : Int)) = false := decide_eq_false (by omega)
  clear c1
  have A6 := Aside0.mk (show (wh ++ pt).size ≤ 281474976710656 from by rw [ByteArray.size_append]; exact c2)
  have c5 : wh.size + pt.size ≤ 9223372036854775807 := by omega
  have c5b0 := eq_true c5
  have c5b1 : decide (wh.size + pt.size ≤ 9223372036854775807) = true := decide_eq_true c5
  have c5b2 : (9223372036854775807 < wh.size + pt.size) = False := eq_false (Nat.not_lt.2 c5)
  clear c2
  have q5 : 0 < a0.size := c3
  have hx5 : ∀ h : 0 < a0.size, ((a0[0]'h).toNat : Int) = bt a0 0 := bt_at a0 0
  have qi5 : (0 < (a0.size : Int)) = True := eq_true (by omega)
  replace q5 := eq_true q5
  clear c3
  have c6b0 : ((bt a0 0) == 45) = false := beq_eq_false_iff_ne.mpr c4
  have c6b1 : ((bt a0 0) != 45) = true := bne_iff_ne.mpr c4
  clear c4
  go_enter Tryz.func6, Tryz.ntmps6
  go_wp2_with (first | (go_at_call 12; (with_reducible refine (strings_TrimPrefix.calls a0 (⟨#[45]⟩ : ByteArray) t _ A1.out).mono ?_); rintro e w' ⟨rfl, ⟨nd, rfl⟩⟩; (try first | exact ⟨rfl, _, World.drewN_drewN _ _ _⟩ | exact ⟨rfl, _, Eq.trans (World.drewN_drewN _ _ _) (congrArg (World.drewN _) (Nat.add_assoc _ _ _))⟩)) | (go_at_call 17; (with_reducible refine (strings_Cut.calls t (⟨#[46]⟩ : ByteArray) wh pt true _ A2.out).mono ?_); rintro e w' ⟨rfl, ⟨nd, rfl⟩⟩; (try first | exact ⟨rfl, _, World.drewN_drewN _ _ _⟩ | exact ⟨rfl, _, Eq.trans (World.drewN_drewN _ _ _) (congrArg (World.drewN _) (Nat.add_assoc _ _ _))⟩)) | (go_at_call 11; (with_reducible refine (num_digits.calls wh true _ A3.out).mono ?_); rintro e w8 ⟨rfl, hb⟩; have n0_ := Aside0.mk (below_step (by repeat (first | (with_reducible first | exact HB.out | apply below_alloc | apply pw_below_drewN | apply below_drew1) | exact HB.out)) hb); clear HB; have HB := n0_; clear n0_; clear hb) | (go_at_call 11; (with_reducible refine (num_digits.calls pt true _ A5.out).mono ?_); rintro e w7 ⟨rfl, hb⟩; have n0_ := Aside0.mk (below_step (by repeat (first | (with_reducible first | exact HB.out | apply below_alloc | apply pw_below_drewN | apply below_drew1) | exact HB.out)) hb); clear HB; have HB := n0_; clear n0_; clear hb) | (go_at_call 13; (with_reducible refine (num_ParseInt.pOk (wh ++ pt) v _ A6.out A7.out).mono ?_); rintro e w9 ⟨rfl, hb⟩; have n0_ := Aside0.mk (below_step (by repeat (first | (with_reducible first | exact HB.out | apply below_alloc | apply pw_below_drewN | apply below_drew1) | exact HB.out)) hb); clear HB; have HB := n0_; clear n0_; clear hb) | (go_at_call 18; (with_reducible refine (num_Fits.calls v true _ A9.out).mono ?_); rintro e w' ⟨rfl, ⟨nd, rfl⟩⟩; (try first | exact ⟨rfl, _, World.drewN_drewN _ _ _⟩ | exact ⟨rfl, _, Eq.trans (World.drewN_drewN _ _ _) (congrArg (World.drewN _) (Nat.add_assoc _ _ _))⟩)))
  go_ret3
  exact ⟨by first | rfl | (simp; done) | (simp [*]; done), (by repeat (first | (with_reducible first | exact HB.out | apply below_alloc | apply pw_below_drewN | apply below_drew1) | exact HB.out))⟩
set_option maxHeartbeats 8000000 in
set_option maxRecDepth 100000 in
theorem num_ParseDec.farf (a0 t wh pt : ByteArray) (w : World) (hG : Gl w) (h1 : strings_TrimPrefix.f a0 (⟨#[45]⟩ : ByteArray) = some t) (h2 : strings_Cut.f t (⟨#[46]⟩ : ByteArray) = some (wh, pt, false)) (h3 : num_digits.f wh = some true) (c1 : pt.size ≤ 18) (c2 : wh.size + pt.size ≤ 281474976710656) (h7 : Lib.parseIntB 64 (wh ++ pt).data.toList = .range) :
    Calls Tryz.prog 6 #[.string a0] w fun e w' => e = .returned (.tuple #[.int .i64 0, .int .i64 0, .int .i64 10]) ∧ Below w.heap.size w w' := by
  have HB := Aside0.mk (Below.refl w.heap.size w)
  have HG := Aside0.mk hG
  have A1 := Aside0.mk h1
  have A2 := Aside0.mk h2
  have A3 := Aside0.mk h3
  have A7 := Aside0.mk h7
  clear hG h1 h2 h3 h7
  have c1b0 : decide ((pt.size : Int) > 18) = false := decide_eq_false (by omega)
  have c1b1 : decide (18 < (pt.size : Int)) = false := decide_eq_false (by omega)
  clear c1
  have A6 := Aside0.mk (show (wh ++ pt).size ≤ 281474976710656 from by rw [ByteArray.size_append]; exact c2)
  have c5 : wh.size + pt.size ≤ 9223372036854775807 := by omega
  have c5b0 := eq_true c5
  have c5b1 : decide (wh.size + pt.size ≤ 9223372036854775807) = true := decide_eq_true c5
  have c5b2 : (9223372036854775807 < wh.size + pt.size) = False := eq_false (Nat.not_lt.2 c5)
  clear c2
  go_enter Tryz.func6, Tryz.ntmps6
  go_wp2_with (first | (go_at_call 12; (with_reducible refine (strings_TrimPrefix.calls a0 (⟨#[45]⟩ : ByteArray) t _ A1.out).mono ?_); rintro e w' ⟨rfl, ⟨nd, rfl⟩⟩; (try first | exact ⟨rfl, _, World.drewN_drewN _ _ _⟩ | exact ⟨rfl, _, Eq.trans (World.drewN_drewN _ _ _) (congrArg (World.drewN _) (Nat.add_assoc _ _ _))⟩)) | (go_at_call 17; (with_reducible refine (strings_Cut.calls t (⟨#[46]⟩ : ByteArray) wh pt false _ A2.out).mono ?_); rintro e w' ⟨rfl, ⟨nd, rfl⟩⟩; (try first | exact ⟨rfl, _, World.drewN_drewN _ _ _⟩ | exact ⟨rfl, _, Eq.trans (World.drewN_drewN _ _ _) (congrArg (World.drewN _) (Nat.add_assoc _ _ _))⟩)) | (go_at_call 11; (with_reducible refine (num_digits.calls wh true _ A3.out).mono ?_); rintro e w8 ⟨rfl, hb⟩; have n0_ := Aside0.mk (below_step (by repeat (first | (with_reducible first | exact HB.out | apply below_alloc | apply pw_below_drewN | apply below_drew1) | exact HB.out)) hb); clear HB; have HB := n0_; clear n0_; clear hb) | (go_at_call 13; (with_reducible refine (num_ParseInt.pRan (wh ++ pt) _ A6.out A7.out (Gl.of HG.out (by repeat (first | (with_reducible first | exact HB.out | apply below_alloc | apply pw_below_drewN | apply below_drew1) | exact HB.out)))).mono ?_); rintro e w9 ⟨N, v, rfl, hb⟩; have n0_ := Aside0.mk (below_step (by repeat (first | (with_reducible first | exact HB.out | apply below_alloc | apply pw_below_drewN | apply below_drew1) | exact HB.out)) hb); clear HB; have HB := n0_; clear n0_; clear hb))
  go_ret3
  exact ⟨by first | rfl | (simp; done) | (simp [*]; done), (by repeat (first | (with_reducible first | exact HB.out | apply below_alloc | apply pw_below_drewN | apply below_drew1) | exact HB.out))⟩
set_option maxHeartbeats 8000000 in
set_option maxRecDepth 100000 in
theorem num_ParseDec.unfitf (a0 t wh pt : ByteArray) (v : Int) (w : World) (hG : Gl w) (h1 : strings_TrimPrefix.f a0 (⟨#[45]⟩ : ByteArray) = some t) (h2 : strings_Cut.f t (⟨#[46]⟩ : ByteArray) = some (wh, pt, false)) (h3 : num_digits.f wh = some true) (c1 : pt.size ≤ 18) (c2 : wh.size + pt.size ≤ 281474976710656) (h7 : Lib.parseIntB 64 (wh ++ pt).data.toList = .ok v) (h9 : num_Fits.f v = some false) :
    Calls Tryz.prog 6 #[.string a0] w fun e w' => e = .returned (.tuple #[.int .i64 0, .int .i64 0, .int .i64 10]) ∧ Below w.heap.size w w' := by
  have HB := Aside0.mk (Below.refl w.heap.size w)
  have HG := Aside0.mk hG
  have A1 := Aside0.mk h1
  have A2 := Aside0.mk h2
  have A3 := Aside0.mk h3
  have A7 := Aside0.mk h7
  have A9 := Aside0.mk h9
  clear hG h1 h2 h3 h7 h9
  have c1b0 : decide ((pt.size : Int) > 18) = false := decide_eq_false (by omega)
  have c1b1 : decide (18 < (pt.size : Int)) = false := decide_eq_false (by omega)
  clear c1
  have A6 := Aside0.mk (show (wh ++ pt).size ≤ 281474976710656 from by rw [ByteArray.size_append]; exact c2)
  have c5 : wh.size + pt.size ≤ 9223372036854775807 := by omega
  have c5b0 := eq_true c5
  have c5b1 : decide (wh.size + pt.size ≤ 9223372036854775807) = true := decide_eq_true c5
  have c5b2 : (9223372036854775807 < wh.size + pt.size) = False := eq_false (Nat.not_lt.2 c5)
  clear c2
  go_enter Tryz.func6, Tryz.ntmps6
  go_wp2_with (first | (go_at_call 12; (with_reducible refine (strings_TrimPrefix.calls a0 (⟨#[45]⟩ : ByteArray) t _ A1.out).mono ?_); rintro e w' ⟨rfl, ⟨nd, rfl⟩⟩; (try first | exact ⟨rfl, _, World.drewN_drewN _ _ _⟩ | exact ⟨rfl, _, Eq.trans (World.drewN_drewN _ _ _) (congrArg (World.drewN _) (Nat.add_assoc _ _ _))⟩)) | (go_at_call 17; (with_reducible refine (strings_Cut.calls t (⟨#[46]⟩ : ByteArray) wh pt false _ A2.out).mono ?_); rintro e w' ⟨rfl, ⟨nd, rfl⟩⟩; (try first | exact ⟨rfl, _, World.drewN_drewN _ _ _⟩ | exact ⟨rfl, _, Eq.trans (World.drewN_drewN _ _ _) (congrArg (World.drewN _) (Nat.add_assoc _ _ _))⟩)) | (go_at_call 11; (with_reducible refine (num_digits.calls wh true _ A3.out).mono ?_); rintro e w8 ⟨rfl, hb⟩; have n0_ := Aside0.mk (below_step (by repeat (first | (with_reducible first | exact HB.out | apply below_alloc | apply pw_below_drewN | apply below_drew1) | exact HB.out)) hb); clear HB; have HB := n0_; clear n0_; clear hb) | (go_at_call 13; (with_reducible refine (num_ParseInt.pOk (wh ++ pt) v _ A6.out A7.out).mono ?_); rintro e w9 ⟨rfl, hb⟩; have n0_ := Aside0.mk (below_step (by repeat (first | (with_reducible first | exact HB.out | apply below_alloc | apply pw_below_drewN | apply below_drew1) | exact HB.out)) hb); clear HB; have HB := n0_; clear n0_; clear hb) | (go_at_call 18; (with_reducible refine (num_Fits.calls v false _ A9.out).mono ?_); rintro e w' ⟨rfl, ⟨nd, rfl⟩⟩; (try first | exact ⟨rfl, _, World.drewN_drewN _ _ _⟩ | exact ⟨rfl, _, Eq.trans (World.drewN_drewN _ _ _) (congrArg (World.drewN _) (Nat.add_assoc _ _ _))⟩)))
  go_ret3
  exact ⟨by first | rfl | (simp; done) | (simp [*]; done), (by repeat (first | (with_reducible first | exact HB.out | apply below_alloc | apply pw_below_drewN | apply below_drew1) | exact HB.out))⟩
set_option maxHeartbeats 8000000 in
set_option maxRecDepth 100000 in
theorem num_ParseDec.negf (a0 t wh pt : ByteArray) (v : Int) (w : World) (hG : Gl w) (h1 : strings_TrimPrefix.f a0 (⟨#[45]⟩ : ByteArray) = some t) (h2 : strings_Cut.f t (⟨#[46]⟩ : ByteArray) = some (wh, pt, false)) (h3 : num_digits.f wh = some true) (c1 : pt.size ≤ 18) (c2 : wh.size + pt.size ≤ 281474976710656) (h7 : Lib.parseIntB 64 (wh ++ pt).data.toList = .ok v) (h9 : num_Fits.f v = some true) (c3 : 0 < a0.size) (c4 : bt a0 0 = 45) :
    Calls Tryz.prog 6 #[.string a0] w fun e w' => e = .returned (.tuple #[.int .i64 (wrap64 (-v)), .int .i64 (pt.size : Int), .int .i64 0]) ∧ Below w.heap.size w w' := by
  have HB := Aside0.mk (Below.refl w.heap.size w)
  have HG := Aside0.mk hG
  have A1 := Aside0.mk h1
  have A2 := Aside0.mk h2
  have A3 := Aside0.mk h3
  have A7 := Aside0.mk h7
  have A9 := Aside0.mk h9
  clear hG h1 h2 h3 h7 h9
  have c1b0 : decide ((pt.size : Int) > 18) = false := decide_eq_false (by omega)
  have c1b1 : decide (18 < (pt.size : Int)) = false := decide_eq_false (by omega)
  clear c1
  have A6 := Aside0.mk (show (wh ++ pt).size ≤ 281474976710656 from by rw [ByteArray.size_append]; exact c2)
  have c5 : wh.size + pt.size ≤ 9223372036854775807 := by omega
  have c5b0 := eq_true c5
  have c5b1 : decide (wh.size + pt.size ≤ 9223372036854775807) = true := decide_eq_true c5
  have c5b2 : (9223372036854775807 < wh.size + pt.size) = False := eq_false (Nat.not_lt.2 c5)
  clear c2
  have q5 : 0 < a0.size := c3
  have hx5 : ∀ h : 0 < a0.size, ((a0[0]'h).toNat : Int) = bt a0 0 := bt_at a0 0
  have qi5 : (0 < (a0.size : Int)) = True := eq_true (by omega)
  replace q5 := eq_true q5
  clear c3
  have c6b0 : ((bt a0 0) == 45) = true := beq_iff_eq.mpr c4
  have c6b1 : ((bt a0 0) != 45) = false := bne_eq_false_iff_eq.mpr c4
  clear c4
  go_enter Tryz.func6, Tryz.ntmps6
  go_wp2_with (first | (go_at_call 12; (with_reducible refine (strings_TrimPrefix.calls a0 (⟨#[45]⟩ : ByteArray) t _ A1.out).mono ?_); rintro e w' ⟨rfl, ⟨nd, rfl⟩⟩; (try first | exact ⟨rfl, _, World.drewN_drewN _ _ _⟩ | exact ⟨rfl, _, Eq.trans (World.drewN_drewN _ _ _) (congrArg (World.drewN _) (Nat.add_assoc _ _ _))⟩)) | (go_at_call 17; (with_reducible refine (strings_Cut.calls t (⟨#[46]⟩ : ByteArray) wh pt false _ A2.out).mono ?_); rintro e w' ⟨rfl, ⟨nd, rfl⟩⟩; (try first | exact ⟨rfl, _, World.drewN_drewN _ _ _⟩ | exact ⟨rfl, _, Eq.trans (World.drewN_drewN _ _ _) (congrArg (World.drewN _) (Nat.add_assoc _ _ _))⟩)) | (go_at_call 11; (with_reducible refine (num_digits.calls wh true _ A3.out).mono ?_); rintro e w8 ⟨rfl, hb⟩; have n0_ := Aside0.mk (below_step (by repeat (first | (with_reducible first | exact HB.out | apply below_alloc | apply pw_below_drewN | apply below_drew1) | exact HB.out)) hb); clear HB; have HB := n0_; clear n0_; clear hb) | (go_at_call 13; (with_reducible refine (num_ParseInt.pOk (wh ++ pt) v _ A6.out A7.out).mono ?_); rintro e w9 ⟨rfl, hb⟩; have n0_ := Aside0.mk (below_step (by repeat (first | (with_reducible first | exact HB.out | apply below_alloc | apply pw_below_drewN | apply below_drew1) | exact HB.out)) hb); clear HB; have HB := n0_; clear n0_; clear hb) | (go_at_call 18; (with_reducible refine (num_Fits.calls v true _ A9.out).mono ?_); rintro e w' ⟨rfl, ⟨nd, rfl⟩⟩; (try first | exact ⟨rfl, _, World.drewN_drewN _ _ _⟩ | exact ⟨rfl, _, Eq.trans (World.drewN_drewN _ _ _) (congrArg (World.drewN _) (Nat.add_assoc _ _ _))⟩)))
  go_ret3
  exact ⟨by first | rfl | (simp; done) | (simp [*]; done), (by repeat (first | (with_reducible first | exact HB.out | apply below_alloc | apply pw_below_drewN | apply below_drew1) | exact HB.out))⟩
set_option maxHeartbeats 8000000 in
set_option maxRecDepth 100000 in
theorem num_ParseDec.posf (a0 t wh pt : ByteArray) (v : Int) (w : World) (hG : Gl w) (h1 : strings_TrimPrefix.f a0 (⟨#[45]⟩ : ByteArray) = some t) (h2 : strings_Cut.f t (⟨#[46]⟩ : ByteArray) = some (wh, pt, false)) (h3 : num_digits.f wh = some true) (c1 : pt.size ≤ 18) (c2 : wh.size + pt.size ≤ 281474976710656) (h7 : Lib.parseIntB 64 (wh ++ pt).data.toList = .ok v) (h9 : num_Fits.f v = some true) (c3 : 0 < a0.size) (c4 : ¬ bt a0 0 = 45) :
    Calls Tryz.prog 6 #[.string a0] w fun e w' => e = .returned (.tuple #[.int .i64 v, .int .i64 (pt.size : Int), .int .i64 0]) ∧ Below w.heap.size w w' := by
  have HB := Aside0.mk (Below.refl w.heap.size w)
  have HG := Aside0.mk hG
  have A1 := Aside0.mk h1
  have A2 := Aside0.mk h2
  have A3 := Aside0.mk h3
  have A7 := Aside0.mk h7
  have A9 := Aside0.mk h9
  clear hG h1 h2 h3 h7 h9
  have c1b0 : decide ((pt.size : Int) > 18) = false := decide_eq_false (by omega)
  have c1b1 : decide (18 < (pt.size : Int)) = false := decide_eq_false (by omega)
  clear c1
  have A6 := Aside0.mk (show (wh ++ pt).size ≤ 281474976710656 from by rw [ByteArray.size_append]; exact c2)
  have c5 : wh.size + pt.size ≤ 9223372036854775807 := by omega
  have c5b0 := eq_true c5
  have c5b1 : decide (wh.size + pt.size ≤ 9223372036854775807) = true := decide_eq_true c5
  have c5b2 : (9223372036854775807 < wh.size + pt.size) = False := eq_false (Nat.not_lt.2 c5)
  clear c2
  have q5 : 0 < a0.size := c3
  have hx5 : ∀ h : 0 < a0.size, ((a0[0]'h).toNat : Int) = bt a0 0 := bt_at a0 0
  have qi5 : (0 < (a0.size : Int)) = True := eq_true (by omega)
  replace q5 := eq_true q5
  clear c3
  have c6b0 : ((bt a0 0) == 45) = false := beq_eq_false_iff_ne.mpr c4
  have c6b1 : ((bt a0 0) != 45) = true := bne_iff_ne.mpr c4
  clear c4
  go_enter Tryz.func6, Tryz.ntmps6
  go_wp2_with (first | (go_at_call 12; (with_reducible refine (strings_TrimPrefix.calls a0 (⟨#[45]⟩ : ByteArray) t _ A1.out).mono ?_); rintro e w' ⟨rfl, ⟨nd, rfl⟩⟩; (try first | exact ⟨rfl, _, World.drewN_drewN _ _ _⟩ | exact ⟨rfl, _, Eq.trans (World.drewN_drewN _ _ _) (congrArg (World.drewN _) (Nat.add_assoc _ _ _))⟩)) | (go_at_call 17; (with_reducible refine (strings_Cut.calls t (⟨#[46]⟩ : ByteArray) wh pt false _ A2.out).mono ?_); rintro e w' ⟨rfl, ⟨nd, rfl⟩⟩; (try first | exact ⟨rfl, _, World.drewN_drewN _ _ _⟩ | exact ⟨rfl, _, Eq.trans (World.drewN_drewN _ _ _) (congrArg (World.drewN _) (Nat.add_assoc _ _ _))⟩)) | (go_at_call 11; (with_reducible refine (num_digits.calls wh true _ A3.out).mono ?_); rintro e w8 ⟨rfl, hb⟩; have n0_ := Aside0.mk (below_step (by repeat (first | (with_reducible first | exact HB.out | apply below_alloc | apply pw_below_drewN | apply below_drew1) | exact HB.out)) hb); clear HB; have HB := n0_; clear n0_; clear hb) | (go_at_call 13; (with_reducible refine (num_ParseInt.pOk (wh ++ pt) v _ A6.out A7.out).mono ?_); rintro e w9 ⟨rfl, hb⟩; have n0_ := Aside0.mk (below_step (by repeat (first | (with_reducible first | exact HB.out | apply below_alloc | apply pw_below_drewN | apply below_drew1) | exact HB.out)) hb); clear HB; have HB := n0_; clear n0_; clear hb) | (go_at_call 18; (with_reducible refine (num_Fits.calls v true _ A9.out).mono ?_); rintro e w' ⟨rfl, ⟨nd, rfl⟩⟩; (try first | exact ⟨rfl, _, World.drewN_drewN _ _ _⟩ | exact ⟨rfl, _, Eq.trans (World.drewN_drewN _ _ _) (congrArg (World.drewN _) (Nat.add_assoc _ _ _))⟩)))
  go_ret3
  exact ⟨by first | rfl | (simp; done) | (simp [*]; done), (by repeat (first | (with_reducible first | exact HB.out | apply below_alloc | apply pw_below_drewN | apply below_drew1) | exact HB.out))⟩
theorem num_ParseDec.calls (a0 : ByteArray) (r1 : Int) (r2 : Int) (r3 : Int) (w : World) (h : num_ParseDec.f a0 = some (r1, r2, r3)) (hG : Gl w) :
    Calls Tryz.prog 6 #[.string a0] w fun e w' => e = .returned (.tuple #[.int .i64 r1, .int .i64 r2, .int .i64 r3]) ∧ Below w.heap.size w w' := by
  unfold num_ParseDec.f at h
  obtain ⟨t, h1, h⟩ := Option.bind_eq_some_iff.mp h
  obtain ⟨⟨wh, pt, b⟩, h2, h⟩ := Option.bind_eq_some_iff.mp h
  obtain ⟨d, h3, h⟩ := Option.bind_eq_some_iff.mp h
  simp only at h3 h
  cases d with
  | false =>
    rw [if_neg (by simp)] at h
    simp only [Option.some.injEq, Prod.mk.injEq] at h
    obtain ⟨rfl, rfl, rfl⟩ := h
    exact num_ParseDec.no1 a0 t wh pt b w hG h1 h2 h3
  | true =>
    rw [if_pos rfl] at h
    cases b with
    | true =>
      rw [if_pos rfl] at h
      obtain ⟨d, h5, h⟩ := Option.bind_eq_some_iff.mp h
      cases d with
      | false =>
        rw [if_neg (by simp)] at h
        simp only [Option.some.injEq, Prod.mk.injEq] at h
        obtain ⟨rfl, rfl, rfl⟩ := h
        exact num_ParseDec.no2 a0 t wh pt w hG h1 h2 h3 h5
      | true =>
        rw [if_pos rfl] at h
        by_cases c1 : pt.size ≤ 18
        · rw [if_pos c1] at h
          unfold num_ParseDec.fin at h
          by_cases c2 : wh.size + pt.size ≤ 281474976710656
          · rw [if_pos c2] at h
            cases h7 : Lib.parseIntB 64 (wh ++ pt).data.toList with
            | range =>
              rw [h7] at h
              simp only [Option.some.injEq, Prod.mk.injEq] at h
              obtain ⟨rfl, rfl, rfl⟩ := h
              exact num_ParseDec.fart a0 t wh pt w hG h1 h2 h3 h5 c1 c2 h7
            | ok v =>
              rw [h7] at h
              obtain ⟨ft, h9, h⟩ := Option.bind_eq_some_iff.mp h
              cases ft with
              | false =>
                rw [if_neg (by simp)] at h
                simp only [Option.some.injEq, Prod.mk.injEq] at h
                obtain ⟨rfl, rfl, rfl⟩ := h
                exact num_ParseDec.unfitt a0 t wh pt v w hG h1 h2 h3 h5 c1 c2 h7 h9
              | true =>
                rw [if_pos rfl] at h
                by_cases c3 : 0 < a0.size
                · rw [if_pos c3] at h
                  by_cases c4 : bt a0 0 = 45
                  · rw [if_pos c4] at h
                    simp only [Option.some.injEq, Prod.mk.injEq] at h
                    obtain ⟨rfl, rfl, rfl⟩ := h
                    exact num_ParseDec.negt a0 t wh pt v w hG h1 h2 h3 h5 c1 c2 h7 h9 c3 c4
                  · rw [if_neg c4] at h
                    simp only [Option.some.injEq, Prod.mk.injEq] at h
                    obtain ⟨rfl, rfl, rfl⟩ := h
                    exact num_ParseDec.post a0 t wh pt v w hG h1 h2 h3 h5 c1 c2 h7 h9 c3 c4
                · rw [if_neg c3] at h; exact absurd h (by simp)
            | _ => rw [h7] at h; exact absurd h (by simp)
          · rw [if_neg c2] at h; exact absurd h (by simp)
        · rw [if_neg c1] at h
          simp only [Option.some.injEq, Prod.mk.injEq] at h
          obtain ⟨rfl, rfl, rfl⟩ := h
          exact num_ParseDec.long a0 t wh pt w hG h1 h2 h3 h5 c1
    | false =>
      rw [if_neg (by simp)] at h
      by_cases c1 : pt.size ≤ 18
      · rw [if_pos c1] at h
        unfold num_ParseDec.fin at h
        by_cases c2 : wh.size + pt.size ≤ 281474976710656
        · rw [if_pos c2] at h
          cases h7 : Lib.parseIntB 64 (wh ++ pt).data.toList with
          | range =>
            rw [h7] at h
            simp only [Option.some.injEq, Prod.mk.injEq] at h
            obtain ⟨rfl, rfl, rfl⟩ := h
            exact num_ParseDec.farf a0 t wh pt w hG h1 h2 h3 c1 c2 h7
          | ok v =>
            rw [h7] at h
            obtain ⟨ft, h9, h⟩ := Option.bind_eq_some_iff.mp h
            cases ft with
            | false =>
              rw [if_neg (by simp)] at h
              simp only [Option.some.injEq, Prod.mk.injEq] at h
              obtain ⟨rfl, rfl, rfl⟩ := h
              exact num_ParseDec.unfitf a0 t wh pt v w hG h1 h2 h3 c1 c2 h7 h9
            | true =>
              rw [if_pos rfl] at h
              by_cases c3 : 0 < a0.size
              · rw [if_pos c3] at h
                by_cases c4 : bt a0 0 = 45
                · rw [if_pos c4] at h
                  simp only [Option.some.injEq, Prod.mk.injEq] at h
                  obtain ⟨rfl, rfl, rfl⟩ := h
                  exact num_ParseDec.negf a0 t wh pt v w hG h1 h2 h3 c1 c2 h7 h9 c3 c4
                · rw [if_neg c4] at h
                  simp only [Option.some.injEq, Prod.mk.injEq] at h
                  obtain ⟨rfl, rfl, rfl⟩ := h
                  exact num_ParseDec.posf a0 t wh pt v w hG h1 h2 h3 c1 c2 h7 h9 c3 c4
              · rw [if_neg c3] at h; exact absurd h (by simp)
          | _ => rw [h7] at h; exact absurd h (by simp)
        · rw [if_neg c2] at h; exact absurd h (by simp)
      · rw [if_neg c1] at h; exact absurd h (by simp)


end Go.Proofs.YtgkkbbpcdjogoaaGreatDoor.T
