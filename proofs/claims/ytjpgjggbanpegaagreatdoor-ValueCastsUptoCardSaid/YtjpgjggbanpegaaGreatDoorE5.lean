/- PRINTED BY A PROGRAM OF THIS SESSION (px.py, over the kit's print): Lean functions with the answers of Go functions of the given program, and proofs that the Go code comes to these answers; each under the conditions that its theorem states. -/
import Derived.Test.YtjpgjggbanpegaaGreatDoorE0
import Derived.Test.YtjpgjggbanpegaaGreatDoorE3
import Derived.Test.YtjpgjggbanpegaaGreatDoorE4
namespace Go.Proofs.YtjpgjggbanpegaaGreatDoor.E
open Go.RowKit Go.Proofs.YtjpgjggbanpegaaGreatDoorW.PrintWords Go.Proofs.YtjpgjggbanpegaaGreatDoorW.PrintLast Go.Proofs.YtjpgjggbanpegaaGreatDoorW.PrintMore
attribute [local go_sem] max2_int min2_int max_two min_two max_three min_three max_four min_four   -- for this text's walks alone
set_option linter.unusedVariables false
set_option linter.unusedSimpArgs false
theorem zE5_0 {P : Prop} (h : P := by repeat (first | (with_reducible first | exact HB.out | apply below_alloc | apply pw_below_drewN | apply below_drew1) | exact HB.out)) : P := h
theorem zE5_1 {P : Prop} (h : P := by (with_reducible repeat (first | refine blk_drewN ?_ _ | refine blk_drew ?_ | refine blk_alloc ?_ _)); refine blk_put (cs := #[.int .i64 0, .int .i64 0, .bool false, .int .i64 0, .string (⟨#[]⟩ : ByteArray)]) ?_ 4 _ rfl; (with_reducible repeat (first | refine blk_drewN ?_ _ | refine blk_drew ?_ | refine blk_alloc ?_ _)); refine blk_put (cs := #[.int .i64 0, .int .i64 0, .bool false, .int .i64 0, .string (⟨#[]⟩ : ByteArray)]) ?_ 3 _ rfl; (with_reducible repeat (first | refine blk_drewN ?_ _ | refine blk_drew ?_ | refine blk_alloc ?_ _)); refine blk_put (cs := #[.int .i64 0, .int .i64 0, .bool false, .int .i64 0, .string (⟨#[]⟩ : ByteArray)]) ?_ 2 _ rfl; (with_reducible repeat (first | refine blk_drewN ?_ _ | refine blk_drew ?_ | refine blk_alloc ?_ _)); refine blk_put (cs := #[.int .i64 0, .int .i64 0, .bool false, .int .i64 0, .string (⟨#[]⟩ : ByteArray)]) ?_ 1 _ rfl; (with_reducible repeat (first | refine blk_drewN ?_ _ | refine blk_drew ?_ | refine blk_alloc ?_ _)); refine blk_put (cs := #[.int .i64 0, .int .i64 0, .bool false, .int .i64 0, .string (⟨#[]⟩ : ByteArray)]) ?_ 0 _ rfl; (with_reducible repeat (first | refine blk_drewN ?_ _ | refine blk_drew ?_ | refine blk_alloc ?_ _)); exact k2) : P := h
theorem zE5_2 {P : Prop} (h : P := by omega) : P := h
theorem zE5_3 {P : Prop} (h : P := by first | rfl | (simp; done) | (simp [*]; done)) : P := h
theorem zE5_4 {P : Prop} (h : P := by (try simp only [List.map_toArray, List.map_cons, List.map_nil]); first | done | rfl | (simp only [List.length_drop, List.length_take]; rfl)) : P := h
theorem zE5_5 {P : Prop} (h : P := by kernel_rfl) : P := h

/-! ### strings_Cut: function 65 -/
def strings_Cut.f (a0 : ByteArray) (a1 : ByteArray) : Option (ByteArray × ByteArray × Bool) := (stringslite_Cut.f a0 a1).bind fun bt176 => (some (bt176.1, bt176.2.1, bt176.2.2))
set_option maxHeartbeats 8000000 in
set_option maxRecDepth 100000 in
theorem strings_Cut.calls (a0 : ByteArray) (a1 : ByteArray) (r1 : ByteArray) (r2 : ByteArray) (r3 : Bool) (w : World) (h : strings_Cut.f a0 a1 = some (r1, r2, r3)) :
  Calls Tryz.prog 65 #[.string a0, .string a1] w fun e w' => e = .returned (.tuple #[.string r1, .string r2, .bool r3]) ∧ Drawn0 w w' := by
 have H : ((stringslite_Cut.f a0 a1).bind fun bt176 => (some (bt176.1, bt176.2.1, bt176.2.2))) = some (r1, r2, r3) := h
 clear h
 replace H := Option.bind_eq_some_iff.mp H
 obtain ⟨⟨t176, t177, t178⟩, A30, H⟩ := H
 replace H : (some (t176, t177, t178)) = some (r1, r2, r3) := H
 have A3 := Aside0.mk A30
 clear A30
 simp only [Option.some.injEq, Prod.mk.injEq] at H
 obtain ⟨rfl, rfl, rfl⟩ := H
 go_enter Tryz.func65, Tryz.ntmps65
 go_wp2_with (first | ((with_reducible refine gate_callee (f := 98) rfl ?_); refine goesL_ (some 9) rfl rfl Tryz.func98 zE5_5 rfl #[.string a0, .string a1] rfl zE5_4 ?_; (with_reducible refine (stringslite_Cut.calls a0 a1 t176 t177 t178 _ A3.out).mono ?_); rintro e w' ⟨rfl, ⟨nd, rfl⟩⟩; refine ⟨_, rfl, ?_⟩))
 go_ret3
 exact ⟨by first | rfl | (simp; done) | (simp [*]; done), by repeat (first | exact Drawn0.refl _ | apply Drawn0.step)⟩

/-! ### num_ParseDec: function 34, by hand -/
def num_ParseDec.fin (a0 wh pt : ByteArray) : Option (Int × Int × Int) := if wh.size + pt.size ≤ 281474976710656 then (match Lib.parseIntB 64 (wh ++ pt).data.toList with | .range => some (0, 0, 10) | .ok v => (num_Fits.f v).bind fun ft => if ft = true then (if 0 < a0.size then (if bt a0 0 = 45 then some (wrap64 (-v), (pt.size : Int), 0) else some (v, (pt.size : Int), 0)) else none) else some (0, 0, 10) | _ => none) else none
def num_ParseDec.f (a0 : ByteArray) : Option (Int × Int × Int) := (strings_TrimPrefix.f a0 (⟨#[45]⟩ : ByteArray)).bind fun t => (strings_Cut.f t (⟨#[46]⟩ : ByteArray)).bind fun c => (num_digits.f c.1).bind fun d1 => if d1 = true then (if c.2.2 = true then ((num_digits.f c.2.1).bind fun d2 => if d2 = true then (if c.2.1.size ≤ 18 then num_ParseDec.fin a0 c.1 c.2.1 else some (0, 0, 10)) else some (0, 0, 12)) else (if c.2.1.size ≤ 18 then num_ParseDec.fin a0 c.1 c.2.1 else none)) else some (0, 0, 12)
set_option maxHeartbeats 8000000 in
set_option maxRecDepth 100000 in
theorem num_ParseDec.no1 (a0 t wh pt : ByteArray) (b : Bool) (w : World) (hG : Gl w) (h1 : strings_TrimPrefix.f a0 (⟨#[45]⟩ : ByteArray) = some t) (h2 : strings_Cut.f t (⟨#[46]⟩ : ByteArray) = some (wh, pt, b)) (h3 : num_digits.f wh = some false) :
  Calls Tryz.prog 34 #[.string a0] w fun e w' => e = .returned (.tuple #[.int .i64 0, .int .i64 0, .int .i64 12]) ∧ Below w.heap.size w w' := by
 have HB := Aside0.mk (Below.refl w.heap.size w)
 have HG := Aside0.mk hG
 have A1 := Aside0.mk h1
 have A2 := Aside0.mk h2
 have A3 := Aside0.mk h3
 clear hG h1 h2 h3
 go_enter Tryz.func34, Tryz.ntmps34
 go_wp2_with (first | (go_at_call 63; (with_reducible refine (strings_TrimPrefix.calls a0 (⟨#[45]⟩ : ByteArray) t _ A1.out).mono ?_); rintro e w' ⟨rfl, ⟨nd, rfl⟩⟩; (try first | exact ⟨rfl, _, World.drewN_drewN _ _ _⟩ | exact ⟨rfl, _, Eq.trans (World.drewN_drewN _ _ _) (congrArg (World.drewN _) (Nat.add_assoc _ _ _))⟩)) | (go_at_call 65; (with_reducible refine (strings_Cut.calls t (⟨#[46]⟩ : ByteArray) wh pt b _ A2.out).mono ?_); rintro e w' ⟨rfl, ⟨nd, rfl⟩⟩; (try first | exact ⟨rfl, _, World.drewN_drewN _ _ _⟩ | exact ⟨rfl, _, Eq.trans (World.drewN_drewN _ _ _) (congrArg (World.drewN _) (Nat.add_assoc _ _ _))⟩)) | (go_at_call 62; (with_reducible refine (num_digits.calls wh false _ A3.out).mono ?_); rintro e w8 ⟨rfl, hb⟩; have n0_ := Aside0.mk (below_step zE5_0 hb); clear HB; have HB := n0_; clear n0_; clear hb))
 go_ret3
 exact ⟨by first | rfl | (simp; done) | (simp [*]; done), zE5_0⟩
set_option maxHeartbeats 8000000 in
set_option maxRecDepth 100000 in
theorem num_ParseDec.no2 (a0 t wh pt : ByteArray) (w : World) (hG : Gl w) (h1 : strings_TrimPrefix.f a0 (⟨#[45]⟩ : ByteArray) = some t) (h2 : strings_Cut.f t (⟨#[46]⟩ : ByteArray) = some (wh, pt, true)) (h3 : num_digits.f wh = some true) (h5 : num_digits.f pt = some false) :
  Calls Tryz.prog 34 #[.string a0] w fun e w' => e = .returned (.tuple #[.int .i64 0, .int .i64 0, .int .i64 12]) ∧ Below w.heap.size w w' := by
 have HB := Aside0.mk (Below.refl w.heap.size w)
 have HG := Aside0.mk hG
 have A1 := Aside0.mk h1
 have A2 := Aside0.mk h2
 have A3 := Aside0.mk h3
 have A5 := Aside0.mk h5
 clear hG h1 h2 h3 h5
 go_enter Tryz.func34, Tryz.ntmps34
 go_wp2_with (first | (go_at_call 63; (with_reducible refine (strings_TrimPrefix.calls a0 (⟨#[45]⟩ : ByteArray) t _ A1.out).mono ?_); rintro e w' ⟨rfl, ⟨nd, rfl⟩⟩; (try first | exact ⟨rfl, _, World.drewN_drewN _ _ _⟩ | exact ⟨rfl, _, Eq.trans (World.drewN_drewN _ _ _) (congrArg (World.drewN _) (Nat.add_assoc _ _ _))⟩)) | (go_at_call 65; (with_reducible refine (strings_Cut.calls t (⟨#[46]⟩ : ByteArray) wh pt true _ A2.out).mono ?_); rintro e w' ⟨rfl, ⟨nd, rfl⟩⟩; (try first | exact ⟨rfl, _, World.drewN_drewN _ _ _⟩ | exact ⟨rfl, _, Eq.trans (World.drewN_drewN _ _ _) (congrArg (World.drewN _) (Nat.add_assoc _ _ _))⟩)) | (go_at_call 62; (with_reducible refine (num_digits.calls wh true _ A3.out).mono ?_); rintro e w8 ⟨rfl, hb⟩; have n0_ := Aside0.mk (below_step zE5_0 hb); clear HB; have HB := n0_; clear n0_; clear hb) | (go_at_call 62; (with_reducible refine (num_digits.calls pt false _ A5.out).mono ?_); rintro e w7 ⟨rfl, hb⟩; have n0_ := Aside0.mk (below_step zE5_0 hb); clear HB; have HB := n0_; clear n0_; clear hb))
 go_ret3
 exact ⟨by first | rfl | (simp; done) | (simp [*]; done), zE5_0⟩
set_option maxHeartbeats 8000000 in
set_option maxRecDepth 100000 in
theorem num_ParseDec.long (a0 t wh pt : ByteArray) (w : World) (hG : Gl w) (h1 : strings_TrimPrefix.f a0 (⟨#[45]⟩ : ByteArray) = some t) (h2 : strings_Cut.f t (⟨#[46]⟩ : ByteArray) = some (wh, pt, true)) (h3 : num_digits.f wh = some true) (h5 : num_digits.f pt = some true) (c1 : ¬ pt.size ≤ 18) :
  Calls Tryz.prog 34 #[.string a0] w fun e w' => e = .returned (.tuple #[.int .i64 0, .int .i64 0, .int .i64 10]) ∧ Below w.heap.size w w' := by
 have HB := Aside0.mk (Below.refl w.heap.size w)
 have HG := Aside0.mk hG
 have A1 := Aside0.mk h1
 have A2 := Aside0.mk h2
 have A3 := Aside0.mk h3
 have A5 := Aside0.mk h5
 clear hG h1 h2 h3 h5
 have c1b0 : decide ((pt.size : Int) > 18) = true := decide_eq_true zE5_2
 have c1b1 : decide (18 < (pt.size : Int)) = true := decide_eq_true zE5_2
 clear c1
 go_enter Tryz.func34, Tryz.ntmps34
 go_wp2_with (first | (go_at_call 63; (with_reducible refine (strings_TrimPrefix.calls a0 (⟨#[45]⟩ : ByteArray) t _ A1.out).mono ?_); rintro e w' ⟨rfl, ⟨nd, rfl⟩⟩; (try first | exact ⟨rfl, _, World.drewN_drewN _ _ _⟩ | exact ⟨rfl, _, Eq.trans (World.drewN_drewN _ _ _) (congrArg (World.drewN _) (Nat.add_assoc _ _ _))⟩)) | (go_at_call 65; (with_reducible refine (strings_Cut.calls t (⟨#[46]⟩ : ByteArray) wh pt true _ A2.out).mono ?_); rintro e w' ⟨rfl, ⟨nd, rfl⟩⟩; (try first | exact ⟨rfl, _, World.drewN_drewN _ _ _⟩ | exact ⟨rfl, _, Eq.trans (World.drewN_drewN _ _ _) (congrArg (World.drewN _) (Nat.add_assoc _ _ _))⟩)) | (go_at_call 62; (with_reducible refine (num_digits.calls wh true _ A3.out).mono ?_); rintro e w8 ⟨rfl, hb⟩; have n0_ := Aside0.mk (below_step zE5_0 hb); clear HB; have HB := n0_; clear n0_; clear hb) | (go_at_call 62; (with_reducible refine (num_digits.calls pt true _ A5.out).mono ?_); rintro e w7 ⟨rfl, hb⟩; have n0_ := Aside0.mk (below_step zE5_0 hb); clear HB; have HB := n0_; clear n0_; clear hb))
 go_ret3
 exact ⟨by first | rfl | (simp; done) | (simp [*]; done), zE5_0⟩
set_option maxHeartbeats 8000000 in
set_option maxRecDepth 100000 in
theorem num_ParseDec.fart (a0 t wh pt : ByteArray) (w : World) (hG : Gl w) (h1 : strings_TrimPrefix.f a0 (⟨#[45]⟩ : ByteArray) = some t) (h2 : strings_Cut.f t (⟨#[46]⟩ : ByteArray) = some (wh, pt, true)) (h3 : num_digits.f wh = some true) (h5 : num_digits.f pt = some true) (c1 : pt.size ≤ 18) (c2 : wh.size + pt.size ≤ 281474976710656) (h7 : Lib.parseIntB 64 (wh ++ pt).data.toList = .range) :
  Calls Tryz.prog 34 #[.string a0] w fun e w' => e = .returned (.tuple #[.int .i64 0, .int .i64 0, .int .i64 10]) ∧ Below w.heap.size w w' := by
 have HB := Aside0.mk (Below.refl w.heap.size w)
 have HG := Aside0.mk hG
 have A1 := Aside0.mk h1
 have A2 := Aside0.mk h2
 have A3 := Aside0.mk h3
 have A5 := Aside0.mk h5
 have A7 := Aside0.mk h7
 clear hG h1 h2 h3 h5 h7
 have c1b0 : decide ((pt.size : Int) > 18) = false := decide_eq_false zE5_2
 have c1b1 : decide (18 < (pt.size : Int)) = false := decide_eq_false zE5_2
 clear c1
 have A6 := Aside0.mk (show (wh ++ pt).size ≤ 281474976710656 from by rw [ByteArray.size_append]; exact c2)
 have c5 : wh.size + pt.size ≤ 9223372036854775807 := by omega
 have c5b0 := eq_true c5
 have c5b1 : decide (wh.size + pt.size ≤ 9223372036854775807) = true := decide_eq_true c5
 have c5b2 : (9223372036854775807 < wh.size + pt.size) = False := eq_false (Nat.not_lt.2 c5)
 clear c2
 go_enter Tryz.func34, Tryz.ntmps34
 go_wp2_with (first | (go_at_call 63; (with_reducible refine (strings_TrimPrefix.calls a0 (⟨#[45]⟩ : ByteArray) t _ A1.out).mono ?_); rintro e w' ⟨rfl, ⟨nd, rfl⟩⟩; (try first | exact ⟨rfl, _, World.drewN_drewN _ _ _⟩ | exact ⟨rfl, _, Eq.trans (World.drewN_drewN _ _ _) (congrArg (World.drewN _) (Nat.add_assoc _ _ _))⟩)) | (go_at_call 65; (with_reducible refine (strings_Cut.calls t (⟨#[46]⟩ : ByteArray) wh pt true _ A2.out).mono ?_); rintro e w' ⟨rfl, ⟨nd, rfl⟩⟩; (try first | exact ⟨rfl, _, World.drewN_drewN _ _ _⟩ | exact ⟨rfl, _, Eq.trans (World.drewN_drewN _ _ _) (congrArg (World.drewN _) (Nat.add_assoc _ _ _))⟩)) | (go_at_call 62; (with_reducible refine (num_digits.calls wh true _ A3.out).mono ?_); rintro e w8 ⟨rfl, hb⟩; have n0_ := Aside0.mk (below_step zE5_0 hb); clear HB; have HB := n0_; clear n0_; clear hb) | (go_at_call 62; (with_reducible refine (num_digits.calls pt true _ A5.out).mono ?_); rintro e w7 ⟨rfl, hb⟩; have n0_ := Aside0.mk (below_step zE5_0 hb); clear HB; have HB := n0_; clear n0_; clear hb) | (go_at_call 64; (with_reducible refine (num_ParseInt.pRan (wh ++ pt) _ A6.out A7.out (Gl.of HG.out zE5_0)).mono ?_); rintro e w9 ⟨N, v, rfl, hb⟩; have n0_ := Aside0.mk (below_step zE5_0 hb); clear HB; have HB := n0_; clear n0_; clear hb))
 go_ret3
 exact ⟨by first | rfl | (simp; done) | (simp [*]; done), zE5_0⟩
set_option maxHeartbeats 8000000 in
set_option maxRecDepth 100000 in
theorem num_ParseDec.unfitt (a0 t wh pt : ByteArray) (v : Int) (w : World) (hG : Gl w) (h1 : strings_TrimPrefix.f a0 (⟨#[45]⟩ : ByteArray) = some t) (h2 : strings_Cut.f t (⟨#[46]⟩ : ByteArray) = some (wh, pt, true)) (h3 : num_digits.f wh = some true) (h5 : num_digits.f pt = some true) (c1 : pt.size ≤ 18) (c2 : wh.size + pt.size ≤ 281474976710656) (h7 : Lib.parseIntB 64 (wh ++ pt).data.toList = .ok v) (h9 : num_Fits.f v = some false) :
  Calls Tryz.prog 34 #[.string a0] w fun e w' => e = .returned (.tuple #[.int .i64 0, .int .i64 0, .int .i64 10]) ∧ Below w.heap.size w w' := by
 have HB := Aside0.mk (Below.refl w.heap.size w)
 have HG := Aside0.mk hG
 have A1 := Aside0.mk h1
 have A2 := Aside0.mk h2
 have A3 := Aside0.mk h3
 have A5 := Aside0.mk h5
 have A7 := Aside0.mk h7
 have A9 := Aside0.mk h9
 clear hG h1 h2 h3 h5 h7 h9
 have c1b0 : decide ((pt.size : Int) > 18) = false := decide_eq_false zE5_2
 have c1b1 : decide (18 < (pt.size : Int)) = false := decide_eq_false zE5_2
 clear c1
 have A6 := Aside0.mk (show (wh ++ pt).size ≤ 281474976710656 from by rw [ByteArray.size_append]; exact c2)
 have c5 : wh.size + pt.size ≤ 9223372036854775807 := by omega
 have c5b0 := eq_true c5
 have c5b1 : decide (wh.size + pt.size ≤ 9223372036854775807) = true := decide_eq_true c5
 have c5b2 : (9223372036854775807 < wh.size + pt.size) = False := eq_false (Nat.not_lt.2 c5)
 clear c2
 go_enter Tryz.func34, Tryz.ntmps34
 go_wp2_with (first | (go_at_call 63; (with_reducible refine (strings_TrimPrefix.calls a0 (⟨#[45]⟩ : ByteArray) t _ A1.out).mono ?_); rintro e w' ⟨rfl, ⟨nd, rfl⟩⟩; (try first | exact ⟨rfl, _, World.drewN_drewN _ _ _⟩ | exact ⟨rfl, _, Eq.trans (World.drewN_drewN _ _ _) (congrArg (World.drewN _) (Nat.add_assoc _ _ _))⟩)) | (go_at_call 65; (with_reducible refine (strings_Cut.calls t (⟨#[46]⟩ : ByteArray) wh pt true _ A2.out).mono ?_); rintro e w' ⟨rfl, ⟨nd, rfl⟩⟩; (try first | exact ⟨rfl, _, World.drewN_drewN _ _ _⟩ | exact ⟨rfl, _, Eq.trans (World.drewN_drewN _ _ _) (congrArg (World.drewN _) (Nat.add_assoc _ _ _))⟩)) | (go_at_call 62; (with_reducible refine (num_digits.calls wh true _ A3.out).mono ?_); rintro e w8 ⟨rfl, hb⟩; have n0_ := Aside0.mk (below_step zE5_0 hb); clear HB; have HB := n0_; clear n0_; clear hb) | (go_at_call 62; (with_reducible refine (num_digits.calls pt true _ A5.out).mono ?_); rintro e w7 ⟨rfl, hb⟩; have n0_ := Aside0.mk (below_step zE5_0 hb); clear HB; have HB := n0_; clear n0_; clear hb) | (go_at_call 64; (with_reducible refine (num_ParseInt.pOk (wh ++ pt) v _ A6.out A7.out).mono ?_); rintro e w9 ⟨rfl, hb⟩; have n0_ := Aside0.mk (below_step zE5_0 hb); clear HB; have HB := n0_; clear n0_; clear hb) | (go_at_call 31; (with_reducible refine (num_Fits.calls v false _ A9.out).mono ?_); rintro e w' ⟨rfl, ⟨nd, rfl⟩⟩; (try first | exact ⟨rfl, _, World.drewN_drewN _ _ _⟩ | exact ⟨rfl, _, Eq.trans (World.drewN_drewN _ _ _) (congrArg (World.drewN _) (Nat.add_assoc _ _ _))⟩)))
 go_ret3
 exact ⟨by first | rfl | (simp; done) | (simp [*]; done), zE5_0⟩
set_option maxHeartbeats 8000000 in
set_option maxRecDepth 100000 in
theorem num_ParseDec.negt (a0 t wh pt : ByteArray) (v : Int) (w : World) (hG : Gl w) (h1 : strings_TrimPrefix.f a0 (⟨#[45]⟩ : ByteArray) = some t) (h2 : strings_Cut.f t (⟨#[46]⟩ : ByteArray) = some (wh, pt, true)) (h3 : num_digits.f wh = some true) (h5 : num_digits.f pt = some true) (c1 : pt.size ≤ 18) (c2 : wh.size + pt.size ≤ 281474976710656) (h7 : Lib.parseIntB 64 (wh ++ pt).data.toList = .ok v) (h9 : num_Fits.f v = some true) (c3 : 0 < a0.size) (c4 : bt a0 0 = 45) :
  Calls Tryz.prog 34 #[.string a0] w fun e w' => e = .returned (.tuple #[.int .i64 (wrap64 (-v)), .int .i64 (pt.size : Int), .int .i64 0]) ∧ Below w.heap.size w w' := by
 have HB := Aside0.mk (Below.refl w.heap.size w)
 have HG := Aside0.mk hG
 have A1 := Aside0.mk h1
 have A2 := Aside0.mk h2
 have A3 := Aside0.mk h3
 have A5 := Aside0.mk h5
 have A7 := Aside0.mk h7
 have A9 := Aside0.mk h9
 clear hG h1 h2 h3 h5 h7 h9
 have c1b0 : decide ((pt.size : Int) > 18) = false := decide_eq_false zE5_2
 have c1b1 : decide (18 < (pt.size : Int)) = false := decide_eq_false zE5_2
 clear c1
 have A6 := Aside0.mk (show (wh ++ pt).size ≤ 281474976710656 from by rw [ByteArray.size_append]; exact c2)
 have c5 : wh.size + pt.size ≤ 9223372036854775807 := by omega
 have c5b0 := eq_true c5
 have c5b1 : decide (wh.size + pt.size ≤ 9223372036854775807) = true := decide_eq_true c5
 have c5b2 : (9223372036854775807 < wh.size + pt.size) = False := eq_false (Nat.not_lt.2 c5)
 clear c2
 have q5 : 0 < a0.size := c3
 have hx5 : ∀ h : 0 < a0.size, ((a0[0]'h).toNat : Int) = bt a0 0 := bt_at a0 0
 have qi5 : (0 < (a0.size : Int)) = True := eq_true zE5_2
 replace q5 := eq_true q5
 clear c3
 have c6b0 : ((bt a0 0) == 45) = true := beq_iff_eq.mpr c4
 have c6b1 : ((bt a0 0) != 45) = false := bne_eq_false_iff_eq.mpr c4
 clear c4
 go_enter Tryz.func34, Tryz.ntmps34
 go_wp2_with (first | (go_at_call 63; (with_reducible refine (strings_TrimPrefix.calls a0 (⟨#[45]⟩ : ByteArray) t _ A1.out).mono ?_); rintro e w' ⟨rfl, ⟨nd, rfl⟩⟩; (try first | exact ⟨rfl, _, World.drewN_drewN _ _ _⟩ | exact ⟨rfl, _, Eq.trans (World.drewN_drewN _ _ _) (congrArg (World.drewN _) (Nat.add_assoc _ _ _))⟩)) | (go_at_call 65; (with_reducible refine (strings_Cut.calls t (⟨#[46]⟩ : ByteArray) wh pt true _ A2.out).mono ?_); rintro e w' ⟨rfl, ⟨nd, rfl⟩⟩; (try first | exact ⟨rfl, _, World.drewN_drewN _ _ _⟩ | exact ⟨rfl, _, Eq.trans (World.drewN_drewN _ _ _) (congrArg (World.drewN _) (Nat.add_assoc _ _ _))⟩)) | (go_at_call 62; (with_reducible refine (num_digits.calls wh true _ A3.out).mono ?_); rintro e w8 ⟨rfl, hb⟩; have n0_ := Aside0.mk (below_step zE5_0 hb); clear HB; have HB := n0_; clear n0_; clear hb) | (go_at_call 62; (with_reducible refine (num_digits.calls pt true _ A5.out).mono ?_); rintro e w7 ⟨rfl, hb⟩; have n0_ := Aside0.mk (below_step zE5_0 hb); clear HB; have HB := n0_; clear n0_; clear hb) | (go_at_call 64; (with_reducible refine (num_ParseInt.pOk (wh ++ pt) v _ A6.out A7.out).mono ?_); rintro e w9 ⟨rfl, hb⟩; have n0_ := Aside0.mk (below_step zE5_0 hb); clear HB; have HB := n0_; clear n0_; clear hb) | (go_at_call 31; (with_reducible refine (num_Fits.calls v true _ A9.out).mono ?_); rintro e w' ⟨rfl, ⟨nd, rfl⟩⟩; (try first | exact ⟨rfl, _, World.drewN_drewN _ _ _⟩ | exact ⟨rfl, _, Eq.trans (World.drewN_drewN _ _ _) (congrArg (World.drewN _) (Nat.add_assoc _ _ _))⟩)))
 go_ret3
 exact ⟨by first | rfl | (simp; done) | (simp [*]; done), zE5_0⟩
set_option maxHeartbeats 8000000 in
set_option maxRecDepth 100000 in
theorem num_ParseDec.post (a0 t wh pt : ByteArray) (v : Int) (w : World) (hG : Gl w) (h1 : strings_TrimPrefix.f a0 (⟨#[45]⟩ : ByteArray) = some t) (h2 : strings_Cut.f t (⟨#[46]⟩ : ByteArray) = some (wh, pt, true)) (h3 : num_digits.f wh = some true) (h5 : num_digits.f pt = some true) (c1 : pt.size ≤ 18) (c2 : wh.size + pt.size ≤ 281474976710656) (h7 : Lib.parseIntB 64 (wh ++ pt).data.toList = .ok v) (h9 : num_Fits.f v = some true) (c3 : 0 < a0.size) (c4 : ¬ bt a0 0 = 45) :
  Calls Tryz.prog 34 #[.string a0] w fun e w' => e = .returned (.tuple #[.int .i64 v, .int .i64 (pt.size : Int), .int .i64 0]) ∧ Below w.heap.size w w' := by
 have HB := Aside0.mk (Below.refl w.heap.size w)
 have HG := Aside0.mk hG
 have A1 := Aside0.mk h1
 have A2 := Aside0.mk h2
 have A3 := Aside0.mk h3
 have A5 := Aside0.mk h5
 have A7 := Aside0.mk h7
 have A9 := Aside0.mk h9
 clear hG h1 h2 h3 h5 h7 h9
 have c1b0 : decide ((pt.size : Int) > 18) = false := decide_eq_false zE5_2
 have c1b1 : decide (18 < (pt.size : Int)) = false := decide_eq_false zE5_2
 clear c1
 have A6 := Aside0.mk (show (wh ++ pt).size ≤ 281474976710656 from by rw [ByteArray.size_append]; exact c2)
 have c5 : wh.size + pt.size ≤ 9223372036854775807 := by omega
 have c5b0 := eq_true c5
 have c5b1 : decide (wh.size + pt.size ≤ 9223372036854775807) = true := decide_eq_true c5
 have c5b2 : (9223372036854775807 < wh.size + pt.size) = False := eq_false (Nat.not_lt.2 c5)
 clear c2
 have q5 : 0 < a0.size := c3
 have hx5 : ∀ h : 0 < a0.size, ((a0[0]'h).toNat : Int) = bt a0 0 := bt_at a0 0
 have qi5 : (0 < (a0.size : Int)) = True := eq_true zE5_2
 replace q5 := eq_true q5
 clear c3
 have c6b0 : ((bt a0 0) == 45) = false := beq_eq_false_iff_ne.mpr c4
 have c6b1 : ((bt a0 0) != 45) = true := bne_iff_ne.mpr c4
 clear c4
 go_enter Tryz.func34, Tryz.ntmps34
 go_wp2_with (first | (go_at_call 63; (with_reducible refine (strings_TrimPrefix.calls a0 (⟨#[45]⟩ : ByteArray) t _ A1.out).mono ?_); rintro e w' ⟨rfl, ⟨nd, rfl⟩⟩; (try first | exact ⟨rfl, _, World.drewN_drewN _ _ _⟩ | exact ⟨rfl, _, Eq.trans (World.drewN_drewN _ _ _) (congrArg (World.drewN _) (Nat.add_assoc _ _ _))⟩)) | (go_at_call 65; (with_reducible refine (strings_Cut.calls t (⟨#[46]⟩ : ByteArray) wh pt true _ A2.out).mono ?_); rintro e w' ⟨rfl, ⟨nd, rfl⟩⟩; (try first | exact ⟨rfl, _, World.drewN_drewN _ _ _⟩ | exact ⟨rfl, _, Eq.trans (World.drewN_drewN _ _ _) (congrArg (World.drewN _) (Nat.add_assoc _ _ _))⟩)) | (go_at_call 62; (with_reducible refine (num_digits.calls wh true _ A3.out).mono ?_); rintro e w8 ⟨rfl, hb⟩; have n0_ := Aside0.mk (below_step zE5_0 hb); clear HB; have HB := n0_; clear n0_; clear hb) | (go_at_call 62; (with_reducible refine (num_digits.calls pt true _ A5.out).mono ?_); rintro e w7 ⟨rfl, hb⟩; have n0_ := Aside0.mk (below_step zE5_0 hb); clear HB; have HB := n0_; clear n0_; clear hb) | (go_at_call 64; (with_reducible refine (num_ParseInt.pOk (wh ++ pt) v _ A6.out A7.out).mono ?_); rintro e w9 ⟨rfl, hb⟩; have n0_ := Aside0.mk (below_step zE5_0 hb); clear HB; have HB := n0_; clear n0_; clear hb) | (go_at_call 31; (with_reducible refine (num_Fits.calls v true _ A9.out).mono ?_); rintro e w' ⟨rfl, ⟨nd, rfl⟩⟩; (try first | exact ⟨rfl, _, World.drewN_drewN _ _ _⟩ | exact ⟨rfl, _, Eq.trans (World.drewN_drewN _ _ _) (congrArg (World.drewN _) (Nat.add_assoc _ _ _))⟩)))
 go_ret3
 exact ⟨by first | rfl | (simp; done) | (simp [*]; done), zE5_0⟩
set_option maxHeartbeats 8000000 in
set_option maxRecDepth 100000 in
theorem num_ParseDec.farf (a0 t wh pt : ByteArray) (w : World) (hG : Gl w) (h1 : strings_TrimPrefix.f a0 (⟨#[45]⟩ : ByteArray) = some t) (h2 : strings_Cut.f t (⟨#[46]⟩ : ByteArray) = some (wh, pt, false)) (h3 : num_digits.f wh = some true) (c1 : pt.size ≤ 18) (c2 : wh.size + pt.size ≤ 281474976710656) (h7 : Lib.parseIntB 64 (wh ++ pt).data.toList = .range) :
  Calls Tryz.prog 34 #[.string a0] w fun e w' => e = .returned (.tuple #[.int .i64 0, .int .i64 0, .int .i64 10]) ∧ Below w.heap.size w w' := by
 have HB := Aside0.mk (Below.refl w.heap.size w)
 have HG := Aside0.mk hG
 have A1 := Aside0.mk h1
 have A2 := Aside0.mk h2
 have A3 := Aside0.mk h3
 have A7 := Aside0.mk h7
 clear hG h1 h2 h3 h7
 have c1b0 : decide ((pt.size : Int) > 18) = false := decide_eq_false zE5_2
 have c1b1 : decide (18 < (pt.size : Int)) = false := decide_eq_false zE5_2
 clear c1
 have A6 := Aside0.mk (show (wh ++ pt).size ≤ 281474976710656 from by rw [ByteArray.size_append]; exact c2)
 have c5 : wh.size + pt.size ≤ 9223372036854775807 := by omega
 have c5b0 := eq_true c5
 have c5b1 : decide (wh.size + pt.size ≤ 9223372036854775807) = true := decide_eq_true c5
 have c5b2 : (9223372036854775807 < wh.size + pt.size) = False := eq_false (Nat.not_lt.2 c5)
 clear c2
 go_enter Tryz.func34, Tryz.ntmps34
 go_wp2_with (first | (go_at_call 63; (with_reducible refine (strings_TrimPrefix.calls a0 (⟨#[45]⟩ : ByteArray) t _ A1.out).mono ?_); rintro e w' ⟨rfl, ⟨nd, rfl⟩⟩; (try first | exact ⟨rfl, _, World.drewN_drewN _ _ _⟩ | exact ⟨rfl, _, Eq.trans (World.drewN_drewN _ _ _) (congrArg (World.drewN _) (Nat.add_assoc _ _ _))⟩)) | (go_at_call 65; (with_reducible refine (strings_Cut.calls t (⟨#[46]⟩ : ByteArray) wh pt false _ A2.out).mono ?_); rintro e w' ⟨rfl, ⟨nd, rfl⟩⟩; (try first | exact ⟨rfl, _, World.drewN_drewN _ _ _⟩ | exact ⟨rfl, _, Eq.trans (World.drewN_drewN _ _ _) (congrArg (World.drewN _) (Nat.add_assoc _ _ _))⟩)) | (go_at_call 62; (with_reducible refine (num_digits.calls wh true _ A3.out).mono ?_); rintro e w8 ⟨rfl, hb⟩; have n0_ := Aside0.mk (below_step zE5_0 hb); clear HB; have HB := n0_; clear n0_; clear hb) | (go_at_call 64; (with_reducible refine (num_ParseInt.pRan (wh ++ pt) _ A6.out A7.out (Gl.of HG.out zE5_0)).mono ?_); rintro e w9 ⟨N, v, rfl, hb⟩; have n0_ := Aside0.mk (below_step zE5_0 hb); clear HB; have HB := n0_; clear n0_; clear hb))
 go_ret3
 exact ⟨by first | rfl | (simp; done) | (simp [*]; done), zE5_0⟩
set_option maxHeartbeats 8000000 in
set_option maxRecDepth 100000 in
theorem num_ParseDec.unfitf (a0 t wh pt : ByteArray) (v : Int) (w : World) (hG : Gl w) (h1 : strings_TrimPrefix.f a0 (⟨#[45]⟩ : ByteArray) = some t) (h2 : strings_Cut.f t (⟨#[46]⟩ : ByteArray) = some (wh, pt, false)) (h3 : num_digits.f wh = some true) (c1 : pt.size ≤ 18) (c2 : wh.size + pt.size ≤ 281474976710656) (h7 : Lib.parseIntB 64 (wh ++ pt).data.toList = .ok v) (h9 : num_Fits.f v = some false) :
  Calls Tryz.prog 34 #[.string a0] w fun e w' => e = .returned (.tuple #[.int .i64 0, .int .i64 0, .int .i64 10]) ∧ Below w.heap.size w w' := by
 have HB := Aside0.mk (Below.refl w.heap.size w)
 have HG := Aside0.mk hG
 have A1 := Aside0.mk h1
 have A2 := Aside0.mk h2
 have A3 := Aside0.mk h3
 have A7 := Aside0.mk h7
 have A9 := Aside0.mk h9
 clear hG h1 h2 h3 h7 h9
 have c1b0 : decide ((pt.size : Int) > 18) = false := decide_eq_false zE5_2
 have c1b1 : decide (18 < (pt.size : Int)) = false := decide_eq_false zE5_2
 clear c1
 have A6 := Aside0.mk (show (wh ++ pt).size ≤ 281474976710656 from by rw [ByteArray.size_append]; exact c2)
 have c5 : wh.size + pt.size ≤ 9223372036854775807 := by omega
 have c5b0 := eq_true c5
 have c5b1 : decide (wh.size + pt.size ≤ 9223372036854775807) = true := decide_eq_true c5
 have c5b2 : (9223372036854775807 < wh.size + pt.size) = False := eq_false (Nat.not_lt.2 c5)
 clear c2
 go_enter Tryz.func34, Tryz.ntmps34
 go_wp2_with (first | (go_at_call 63; (with_reducible refine (strings_TrimPrefix.calls a0 (⟨#[45]⟩ : ByteArray) t _ A1.out).mono ?_); rintro e w' ⟨rfl, ⟨nd, rfl⟩⟩; (try first | exact ⟨rfl, _, World.drewN_drewN _ _ _⟩ | exact ⟨rfl, _, Eq.trans (World.drewN_drewN _ _ _) (congrArg (World.drewN _) (Nat.add_assoc _ _ _))⟩)) | (go_at_call 65; (with_reducible refine (strings_Cut.calls t (⟨#[46]⟩ : ByteArray) wh pt false _ A2.out).mono ?_); rintro e w' ⟨rfl, ⟨nd, rfl⟩⟩; (try first | exact ⟨rfl, _, World.drewN_drewN _ _ _⟩ | exact ⟨rfl, _, Eq.trans (World.drewN_drewN _ _ _) (congrArg (World.drewN _) (Nat.add_assoc _ _ _))⟩)) | (go_at_call 62; (with_reducible refine (num_digits.calls wh true _ A3.out).mono ?_); rintro e w8 ⟨rfl, hb⟩; have n0_ := Aside0.mk (below_step zE5_0 hb); clear HB; have HB := n0_; clear n0_; clear hb) | (go_at_call 64; (with_reducible refine (num_ParseInt.pOk (wh ++ pt) v _ A6.out A7.out).mono ?_); rintro e w9 ⟨rfl, hb⟩; have n0_ := Aside0.mk (below_step zE5_0 hb); clear HB; have HB := n0_; clear n0_; clear hb) | (go_at_call 31; (with_reducible refine (num_Fits.calls v false _ A9.out).mono ?_); rintro e w' ⟨rfl, ⟨nd, rfl⟩⟩; (try first | exact ⟨rfl, _, World.drewN_drewN _ _ _⟩ | exact ⟨rfl, _, Eq.trans (World.drewN_drewN _ _ _) (congrArg (World.drewN _) (Nat.add_assoc _ _ _))⟩)))
 go_ret3
 exact ⟨by first | rfl | (simp; done) | (simp [*]; done), zE5_0⟩
set_option maxHeartbeats 8000000 in
set_option maxRecDepth 100000 in
theorem num_ParseDec.negf (a0 t wh pt : ByteArray) (v : Int) (w : World) (hG : Gl w) (h1 : strings_TrimPrefix.f a0 (⟨#[45]⟩ : ByteArray) = some t) (h2 : strings_Cut.f t (⟨#[46]⟩ : ByteArray) = some (wh, pt, false)) (h3 : num_digits.f wh = some true) (c1 : pt.size ≤ 18) (c2 : wh.size + pt.size ≤ 281474976710656) (h7 : Lib.parseIntB 64 (wh ++ pt).data.toList = .ok v) (h9 : num_Fits.f v = some true) (c3 : 0 < a0.size) (c4 : bt a0 0 = 45) :
  Calls Tryz.prog 34 #[.string a0] w fun e w' => e = .returned (.tuple #[.int .i64 (wrap64 (-v)), .int .i64 (pt.size : Int), .int .i64 0]) ∧ Below w.heap.size w w' := by
 have HB := Aside0.mk (Below.refl w.heap.size w)
 have HG := Aside0.mk hG
 have A1 := Aside0.mk h1
 have A2 := Aside0.mk h2
 have A3 := Aside0.mk h3
 have A7 := Aside0.mk h7
 have A9 := Aside0.mk h9
 clear hG h1 h2 h3 h7 h9
 have c1b0 : decide ((pt.size : Int) > 18) = false := decide_eq_false zE5_2
 have c1b1 : decide (18 < (pt.size : Int)) = false := decide_eq_false zE5_2
 clear c1
 have A6 := Aside0.mk (show (wh ++ pt).size ≤ 281474976710656 from by rw [ByteArray.size_append]; exact c2)
 have c5 : wh.size + pt.size ≤ 9223372036854775807 := by omega
 have c5b0 := eq_true c5
 have c5b1 : decide (wh.size + pt.size ≤ 9223372036854775807) = true := decide_eq_true c5
 have c5b2 : (9223372036854775807 < wh.size + pt.size) = False := eq_false (Nat.not_lt.2 c5)
 clear c2
 have q5 : 0 < a0.size := c3
 have hx5 : ∀ h : 0 < a0.size, ((a0[0]'h).toNat : Int) = bt a0 0 := bt_at a0 0
 have qi5 : (0 < (a0.size : Int)) = True := eq_true zE5_2
 replace q5 := eq_true q5
 clear c3
 have c6b0 : ((bt a0 0) == 45) = true := beq_iff_eq.mpr c4
 have c6b1 : ((bt a0 0) != 45) = false := bne_eq_false_iff_eq.mpr c4
 clear c4
 go_enter Tryz.func34, Tryz.ntmps34
 go_wp2_with (first | (go_at_call 63; (with_reducible refine (strings_TrimPrefix.calls a0 (⟨#[45]⟩ : ByteArray) t _ A1.out).mono ?_); rintro e w' ⟨rfl, ⟨nd, rfl⟩⟩; (try first | exact ⟨rfl, _, World.drewN_drewN _ _ _⟩ | exact ⟨rfl, _, Eq.trans (World.drewN_drewN _ _ _) (congrArg (World.drewN _) (Nat.add_assoc _ _ _))⟩)) | (go_at_call 65; (with_reducible refine (strings_Cut.calls t (⟨#[46]⟩ : ByteArray) wh pt false _ A2.out).mono ?_); rintro e w' ⟨rfl, ⟨nd, rfl⟩⟩; (try first | exact ⟨rfl, _, World.drewN_drewN _ _ _⟩ | exact ⟨rfl, _, Eq.trans (World.drewN_drewN _ _ _) (congrArg (World.drewN _) (Nat.add_assoc _ _ _))⟩)) | (go_at_call 62; (with_reducible refine (num_digits.calls wh true _ A3.out).mono ?_); rintro e w8 ⟨rfl, hb⟩; have n0_ := Aside0.mk (below_step zE5_0 hb); clear HB; have HB := n0_; clear n0_; clear hb) | (go_at_call 64; (with_reducible refine (num_ParseInt.pOk (wh ++ pt) v _ A6.out A7.out).mono ?_); rintro e w9 ⟨rfl, hb⟩; have n0_ := Aside0.mk (below_step zE5_0 hb); clear HB; have HB := n0_; clear n0_; clear hb) | (go_at_call 31; (with_reducible refine (num_Fits.calls v true _ A9.out).mono ?_); rintro e w' ⟨rfl, ⟨nd, rfl⟩⟩; (try first | exact ⟨rfl, _, World.drewN_drewN _ _ _⟩ | exact ⟨rfl, _, Eq.trans (World.drewN_drewN _ _ _) (congrArg (World.drewN _) (Nat.add_assoc _ _ _))⟩)))
 go_ret3
 exact ⟨by first | rfl | (simp; done) | (simp [*]; done), zE5_0⟩
set_option maxHeartbeats 8000000 in
set_option maxRecDepth 100000 in
theorem num_ParseDec.posf (a0 t wh pt : ByteArray) (v : Int) (w : World) (hG : Gl w) (h1 : strings_TrimPrefix.f a0 (⟨#[45]⟩ : ByteArray) = some t) (h2 : strings_Cut.f t (⟨#[46]⟩ : ByteArray) = some (wh, pt, false)) (h3 : num_digits.f wh = some true) (c1 : pt.size ≤ 18) (c2 : wh.size + pt.size ≤ 281474976710656) (h7 : Lib.parseIntB 64 (wh ++ pt).data.toList = .ok v) (h9 : num_Fits.f v = some true) (c3 : 0 < a0.size) (c4 : ¬ bt a0 0 = 45) :
  Calls Tryz.prog 34 #[.string a0] w fun e w' => e = .returned (.tuple #[.int .i64 v, .int .i64 (pt.size : Int), .int .i64 0]) ∧ Below w.heap.size w w' := by
 have HB := Aside0.mk (Below.refl w.heap.size w)
 have HG := Aside0.mk hG
 have A1 := Aside0.mk h1
 have A2 := Aside0.mk h2
 have A3 := Aside0.mk h3
 have A7 := Aside0.mk h7
 have A9 := Aside0.mk h9
 clear hG h1 h2 h3 h7 h9
 have c1b0 : decide ((pt.size : Int) > 18) = false := decide_eq_false zE5_2
 have c1b1 : decide (18 < (pt.size : Int)) = false := decide_eq_false zE5_2
 clear c1
 have A6 := Aside0.mk (show (wh ++ pt).size ≤ 281474976710656 from by rw [ByteArray.size_append]; exact c2)
 have c5 : wh.size + pt.size ≤ 9223372036854775807 := by omega
 have c5b0 := eq_true c5
 have c5b1 : decide (wh.size + pt.size ≤ 9223372036854775807) = true := decide_eq_true c5
 have c5b2 : (9223372036854775807 < wh.size + pt.size) = False := eq_false (Nat.not_lt.2 c5)
 clear c2
 have q5 : 0 < a0.size := c3
 have hx5 : ∀ h : 0 < a0.size, ((a0[0]'h).toNat : Int) = bt a0 0 := bt_at a0 0
 have qi5 : (0 < (a0.size : Int)) = True := eq_true zE5_2
 replace q5 := eq_true q5
 clear c3
 have c6b0 : ((bt a0 0) == 45) = false := beq_eq_false_iff_ne.mpr c4
 have c6b1 : ((bt a0 0) != 45) = true := bne_iff_ne.mpr c4
 clear c4
 go_enter Tryz.func34, Tryz.ntmps34
 go_wp2_with (first | (go_at_call 63; (with_reducible refine (strings_TrimPrefix.calls a0 (⟨#[45]⟩ : ByteArray) t _ A1.out).mono ?_); rintro e w' ⟨rfl, ⟨nd, rfl⟩⟩; (try first | exact ⟨rfl, _, World.drewN_drewN _ _ _⟩ | exact ⟨rfl, _, Eq.trans (World.drewN_drewN _ _ _) (congrArg (World.drewN _) (Nat.add_assoc _ _ _))⟩)) | (go_at_call 65; (with_reducible refine (strings_Cut.calls t (⟨#[46]⟩ : ByteArray) wh pt false _ A2.out).mono ?_); rintro e w' ⟨rfl, ⟨nd, rfl⟩⟩; (try first | exact ⟨rfl, _, World.drewN_drewN _ _ _⟩ | exact ⟨rfl, _, Eq.trans (World.drewN_drewN _ _ _) (congrArg (World.drewN _) (Nat.add_assoc _ _ _))⟩)) | (go_at_call 62; (with_reducible refine (num_digits.calls wh true _ A3.out).mono ?_); rintro e w8 ⟨rfl, hb⟩; have n0_ := Aside0.mk (below_step zE5_0 hb); clear HB; have HB := n0_; clear n0_; clear hb) | (go_at_call 64; (with_reducible refine (num_ParseInt.pOk (wh ++ pt) v _ A6.out A7.out).mono ?_); rintro e w9 ⟨rfl, hb⟩; have n0_ := Aside0.mk (below_step zE5_0 hb); clear HB; have HB := n0_; clear n0_; clear hb) | (go_at_call 31; (with_reducible refine (num_Fits.calls v true _ A9.out).mono ?_); rintro e w' ⟨rfl, ⟨nd, rfl⟩⟩; (try first | exact ⟨rfl, _, World.drewN_drewN _ _ _⟩ | exact ⟨rfl, _, Eq.trans (World.drewN_drewN _ _ _) (congrArg (World.drewN _) (Nat.add_assoc _ _ _))⟩)))
 go_ret3
 exact ⟨by first | rfl | (simp; done) | (simp [*]; done), zE5_0⟩
theorem num_ParseDec.calls (a0 : ByteArray) (r1 : Int) (r2 : Int) (r3 : Int) (w : World) (h : num_ParseDec.f a0 = some (r1, r2, r3)) (hG : Gl w) :
  Calls Tryz.prog 34 #[.string a0] w fun e w' => e = .returned (.tuple #[.int .i64 r1, .int .i64 r2, .int .i64 r3]) ∧ Below w.heap.size w w' := by
 unfold num_ParseDec.f at h
 obtain ⟨t, h1, h⟩ := Option.bind_eq_some_iff.mp h
 obtain ⟨⟨wh, pt, b⟩, h2, h⟩ := Option.bind_eq_some_iff.mp h
 obtain ⟨d, h3, h⟩ := Option.bind_eq_some_iff.mp h
 simp only at h3 h
 cases d with
 | false =>
  rw [if_neg (by simp)] at h
  simp only [Option.some.injEq, Prod.mk.injEq] at h
  obtain ⟨rfl, rfl, rfl⟩ := h
  exact num_ParseDec.no1 a0 t wh pt b w hG h1 h2 h3
 | true =>
  rw [if_pos rfl] at h
  cases b with
  | true =>
   rw [if_pos rfl] at h
   obtain ⟨d, h5, h⟩ := Option.bind_eq_some_iff.mp h
   cases d with
   | false =>
    rw [if_neg (by simp)] at h
    simp only [Option.some.injEq, Prod.mk.injEq] at h
    obtain ⟨rfl, rfl, rfl⟩ := h
    exact num_ParseDec.no2 a0 t wh pt w hG h1 h2 h3 h5
   | true =>
    rw [if_pos rfl] at h
    by_cases c1 : pt.size ≤ 18
    ·rw [if_pos c1] at h
     unfold num_ParseDec.fin at h
     by_cases c2 : wh.size + pt.size ≤ 281474976710656
     ·rw [if_pos c2] at h
      cases h7 : Lib.parseIntB 64 (wh ++ pt).data.toList with
      | range =>
       rw [h7] at h
       simp only [Option.some.injEq, Prod.mk.injEq] at h
       obtain ⟨rfl, rfl, rfl⟩ := h
       exact num_ParseDec.fart a0 t wh pt w hG h1 h2 h3 h5 c1 c2 h7
      | ok v =>
       rw [h7] at h
       obtain ⟨ft, h9, h⟩ := Option.bind_eq_some_iff.mp h
       cases ft with
       | false =>
        rw [if_neg (by simp)] at h
        simp only [Option.some.injEq, Prod.mk.injEq] at h
        obtain ⟨rfl, rfl, rfl⟩ := h
        exact num_ParseDec.unfitt a0 t wh pt v w hG h1 h2 h3 h5 c1 c2 h7 h9
       | true =>
        rw [if_pos rfl] at h
        by_cases c3 : 0 < a0.size
        ·rw [if_pos c3] at h
         by_cases c4 : bt a0 0 = 45
         ·rw [if_pos c4] at h
          simp only [Option.some.injEq, Prod.mk.injEq] at h
          obtain ⟨rfl, rfl, rfl⟩ := h
          exact num_ParseDec.negt a0 t wh pt v w hG h1 h2 h3 h5 c1 c2 h7 h9 c3 c4
         ·rw [if_neg c4] at h
          simp only [Option.some.injEq, Prod.mk.injEq] at h
          obtain ⟨rfl, rfl, rfl⟩ := h
          exact num_ParseDec.post a0 t wh pt v w hG h1 h2 h3 h5 c1 c2 h7 h9 c3 c4
        ·rw [if_neg c3] at h; exact absurd h (by simp)
      | _ => rw [h7] at h; exact absurd h (by simp)
     ·rw [if_neg c2] at h; exact absurd h (by simp)
    ·rw [if_neg c1] at h
     simp only [Option.some.injEq, Prod.mk.injEq] at h
     obtain ⟨rfl, rfl, rfl⟩ := h
     exact num_ParseDec.long a0 t wh pt w hG h1 h2 h3 h5 c1
  | false =>
   rw [if_neg (by simp)] at h
   by_cases c1 : pt.size ≤ 18
   ·rw [if_pos c1] at h
    unfold num_ParseDec.fin at h
    by_cases c2 : wh.size + pt.size ≤ 281474976710656
    ·rw [if_pos c2] at h
     cases h7 : Lib.parseIntB 64 (wh ++ pt).data.toList with
     | range =>
      rw [h7] at h
      simp only [Option.some.injEq, Prod.mk.injEq] at h
      obtain ⟨rfl, rfl, rfl⟩ := h
      exact num_ParseDec.farf a0 t wh pt w hG h1 h2 h3 c1 c2 h7
     | ok v =>
      rw [h7] at h
      obtain ⟨ft, h9, h⟩ := Option.bind_eq_some_iff.mp h
      cases ft with
      | false =>
       rw [if_neg (by simp)] at h
       simp only [Option.some.injEq, Prod.mk.injEq] at h
       obtain ⟨rfl, rfl, rfl⟩ := h
       exact num_ParseDec.unfitf a0 t wh pt v w hG h1 h2 h3 c1 c2 h7 h9
      | true =>
       rw [if_pos rfl] at h
       by_cases c3 : 0 < a0.size
       ·rw [if_pos c3] at h
        by_cases c4 : bt a0 0 = 45
        ·rw [if_pos c4] at h
         simp only [Option.some.injEq, Prod.mk.injEq] at h
         obtain ⟨rfl, rfl, rfl⟩ := h
         exact num_ParseDec.negf a0 t wh pt v w hG h1 h2 h3 c1 c2 h7 h9 c3 c4
        ·rw [if_neg c4] at h
         simp only [Option.some.injEq, Prod.mk.injEq] at h
         obtain ⟨rfl, rfl, rfl⟩ := h
         exact num_ParseDec.posf a0 t wh pt v w hG h1 h2 h3 c1 c2 h7 h9 c3 c4
       ·rw [if_neg c3] at h; exact absurd h (by simp)
     | _ => rw [h7] at h; exact absurd h (by simp)
    ·rw [if_neg c2] at h; exact absurd h (by simp)
   ·rw [if_neg c1] at h; exact absurd h (by simp)


/-! ### num_Day: function 67 -/
mutual
def num_Day.j0 : Nat → Int → Int → Int → Bool → Option (Int × Int)
 | 0, _, _, _, _ => none
 | k + 1, x0, x1, x2, x34 => if x34 = true then (some (0, 13)) else ((num_years.f x0).bind fun t180 => (num_Day.l0 k x0 x1 (wrap64 ((wrap64 ((wrap64 ((-719162) + t180)) + x2)) - 1)) 1))
def num_Day.l0 : Nat → Int → Int → Int → Int → Option (Int × Int)
 | 0, _, _, _, _ => none
 | k + 1, x0, x1, x8, x9 => if x9 < x1 then ((num_month.f x0 x9).bind fun t181 => (num_Day.l0 k x0 x1 (wrap64 (x8 + t181)) (wrap64 (x9 + 1)))) else (some (x8, 0))
end
def num_Day.f (k : Nat) (a0 : Int) (a1 : Int) (a2 : Int) : Option (Int × Int) := if a0 < 1 then (num_Day.j0 k a0 a1 a2 true) else (if a0 > 9999 then (num_Day.j0 k a0 a1 a2 true) else (if a1 < 1 then (num_Day.j0 k a0 a1 a2 true) else (if a1 > 12 then (num_Day.j0 k a0 a1 a2 true) else (if a2 < 1 then (num_Day.j0 k a0 a1 a2 true) else ((num_month.f a0 a1).bind fun t179 => (num_Day.j0 k a0 a1 a2 (decide (a2 > t179))))))))
theorem num_Day.mono_l : ∀ k, (∀ y0 y1 y2 y3, LeO (num_Day.j0 k y0 y1 y2 y3) (num_Day.j0 (k + 1) y0 y1 y2 y3)) ∧ (∀ y0 y1 y2 y3, LeO (num_Day.l0 k y0 y1 y2 y3) (num_Day.l0 (k + 1) y0 y1 y2 y3))
 | 0 => ⟨fun _ _ _ _ r h => by simp [num_Day.j0] at h, fun _ _ _ _ r h => by simp [num_Day.l0] at h⟩
 | k + 1 => by
  obtain ⟨ih0, ih1⟩ := num_Day.mono_l k
  refine ⟨?_, ?_⟩
  ·intro y0 y1 y2 y3
   unfold num_Day.j0
   repeat' first
   | (with_reducible exact ih0 _ _ _ _)
   | (with_reducible exact ih1 _ _ _ _)
   | (with_reducible exact LeO.refl _)
   | (with_reducible exact LeO.none _)
   | (with_reducible refine LeO.ite ?_ ?_)
   | (with_reducible refine LeO.bind ?_ (fun _ => ?_))
   | exact ih0 _ _ _ _
   | exact ih1 _ _ _ _
   | exact LeO.none _
   | refine LeO.ite ?_ ?_
   | refine LeO.bind ?_ (fun _ => ?_)
  ·intro y0 y1 y2 y3
   unfold num_Day.l0
   repeat' first
   | (with_reducible exact ih0 _ _ _ _)
   | (with_reducible exact ih1 _ _ _ _)
   | (with_reducible exact LeO.refl _)
   | (with_reducible exact LeO.none _)
   | (with_reducible refine LeO.ite ?_ ?_)
   | (with_reducible refine LeO.bind ?_ (fun _ => ?_))
   | exact ih0 _ _ _ _
   | exact ih1 _ _ _ _
   | exact LeO.none _
   | refine LeO.ite ?_ ?_
   | refine LeO.bind ?_ (fun _ => ?_)
theorem num_Day.mono : ∀ a0 a1 a2 k, LeO (num_Day.f k a0 a1 a2) (num_Day.f (k + 1) a0 a1 a2) := by
 intro a0 a1 a2 k
 obtain ⟨ih0, ih1⟩ := num_Day.mono_l k
 unfold num_Day.f
 repeat' first
   | (with_reducible exact ih0 _ _ _ _)
   | (with_reducible exact ih1 _ _ _ _)
   | (with_reducible exact LeO.refl _)
   | (with_reducible exact LeO.none _)
   | (with_reducible refine LeO.ite ?_ ?_)
   | (with_reducible refine LeO.bind ?_ (fun _ => ?_))
   | exact ih0 _ _ _ _
   | exact ih1 _ _ _ _
   | exact LeO.none _
   | refine LeO.ite ?_ ?_
   | refine LeO.bind ?_ (fun _ => ?_)
set_option maxHeartbeats 8000000 in
set_option maxRecDepth 100000 in
theorem num_Day.calls (k : Nat) (a0 : Int) (a1 : Int) (a2 : Int) (r1 : Int) (r2 : Int) (w : World) (h : num_Day.f k a0 a1 a2 = some (r1, r2)) :
  Calls Tryz.prog 67 #[.int .i64 a0, .int .i64 a1, .int .i64 a2] w fun e w' => e = .returned (.tuple #[.int .i64 r1, .int .i64 r2]) ∧ Drawn0 w w' := by
 have H : (if a0 < 1 then (num_Day.j0 k a0 a1 a2 true) else (if a0 > 9999 then (num_Day.j0 k a0 a1 a2 true) else (if a1 < 1 then (num_Day.j0 k a0 a1 a2 true) else (if a1 > 12 then (num_Day.j0 k a0 a1 a2 true) else (if a2 < 1 then (num_Day.j0 k a0 a1 a2 true) else ((num_month.f a0 a1).bind fun t179 => (num_Day.j0 k a0 a1 a2 (decide (a2 > t179))))))))) = some (r1, r2) := h
 clear h
 have HC4 := Aside0.mk H
 clear H
 go_enter Tryz.func67, Tryz.ntmps67
 go_upto_region 1 with (fail)
 go_cut [34] (fun v34 wc => ∃ (kq : Nat) (x34_3 : Bool), v34 = .bool x34_3 ∧ Aside0 (num_Day.j0 kq a0 a1 a2 x34_3 = some (r1, r2)) ∧ Aside0 (kq ≤ k) ∧ Drawn0 w wc)
 case first =>
  have H := HC4.out
  clear HC4
  by_cases c5 : a0 < 1
  ·rw [if_pos c5] at H
   have c5b0 : decide (a0 < 1) = true := decide_eq_true c5
   clear c5
   (first | rw [c5b0] | (simp only [i64_w, i32_w]; rw [c5b0]) | skip)
   have H' := Aside0.mk H
   clear H
   go_wp2
   go_meet
   case rel => exact ⟨_, (true), zE5_3, H', ⟨by first | omega | exact Nat.le_refl _⟩, by repeat (first | exact Drawn0.refl _ | apply Drawn0.step)⟩
  ·rw [if_neg c5] at H
   have c5b0 : decide (a0 < 1) = false := decide_eq_false c5
   clear c5
   (first | rw [c5b0] | (simp only [i64_w, i32_w]; rw [c5b0]) | skip)
   by_cases c6 : a0 > 9999
   ·rw [if_pos c6] at H
    have c6b0 : decide (9999 < a0) = true := decide_eq_true c6
    clear c6
    have H' := Aside0.mk H
    clear H
    go_wp2
    go_meet
    case rel => exact ⟨_, (true), zE5_3, H', ⟨by first | omega | exact Nat.le_refl _⟩, by repeat (first | exact Drawn0.refl _ | apply Drawn0.step)⟩
   ·rw [if_neg c6] at H
    have c6b0 : decide (9999 < a0) = false := decide_eq_false c6
    clear c6
    by_cases c7 : a1 < 1
    ·rw [if_pos c7] at H
     have c7b0 : decide (a1 < 1) = true := decide_eq_true c7
     clear c7
     have H' := Aside0.mk H
     clear H
     go_wp2
     go_meet
     case rel => exact ⟨_, (true), zE5_3, H', ⟨by first | omega | exact Nat.le_refl _⟩, by repeat (first | exact Drawn0.refl _ | apply Drawn0.step)⟩
    ·rw [if_neg c7] at H
     have c7b0 : decide (a1 < 1) = false := decide_eq_false c7
     clear c7
     by_cases c8 : a1 > 12
     ·rw [if_pos c8] at H
      have c8b0 : decide (12 < a1) = true := decide_eq_true c8
      clear c8
      have H' := Aside0.mk H
      clear H
      go_wp2
      go_meet
      case rel => exact ⟨_, (true), zE5_3, H', ⟨by first | omega | exact Nat.le_refl _⟩, by repeat (first | exact Drawn0.refl _ | apply Drawn0.step)⟩
     ·rw [if_neg c8] at H
      have c8b0 : decide (12 < a1) = false := decide_eq_false c8
      clear c8
      by_cases c9 : a2 < 1
      ·rw [if_pos c9] at H
       have c9b0 : decide (a2 < 1) = true := decide_eq_true c9
       clear c9
       have H' := Aside0.mk H
       clear H
       go_wp2
       go_meet
       case rel => exact ⟨_, (true), zE5_3, H', ⟨by first | omega | exact Nat.le_refl _⟩, by repeat (first | exact Drawn0.refl _ | apply Drawn0.step)⟩
      ·rw [if_neg c9] at H
       have c9b0 : decide (a2 < 1) = false := decide_eq_false c9
       clear c9
       replace H := Option.bind_eq_some_iff.mp H
       obtain ⟨t179, A100, H⟩ := H
       replace H : (num_Day.j0 k a0 a1 a2 (decide (a2 > t179))) = some (r1, r2) := H
       have A10 := Aside0.mk A100
       clear A100
       have H' := Aside0.mk H
       clear H
       go_wp2_with (first | (go_at_call 100; (with_reducible refine (num_month.calls a0 a1 t179 _ A10.out).mono ?_); rintro e w' ⟨rfl, ⟨nd, rfl⟩⟩))
       go_meet
       case rel => exact ⟨_, (decide (a2 > t179)), zE5_3, H', ⟨by first | omega | exact Nat.le_refl _⟩, by repeat (first | exact Drawn0.refl _ | apply Drawn0.step)⟩
 case rest =>
  clear HC4
  obtain ⟨kq, x34_3, rfl, HA, HJ3, ⟨mc3, rfl⟩⟩ := hcut
  cases kq with
  | zero => exact absurd HA.out (by simp [num_Day.j0])
  | succ kj3 =>
   have H := HA.out
   clear HA
   simp only [num_Day.j0] at H
   by_cases c11 : x34_3 = true
   ·subst c11
    have H1 : (some (0, 13)) = some (r1, r2) := by rw [if_pos rfl] at H; exact H
    clear H
    have H := H1
    clear H1
    simp only [Option.some.injEq, Prod.mk.injEq] at H
    obtain ⟨rfl, rfl⟩ := H
    go_wp2
    go_ret2
    exact ⟨by first | rfl | (simp; done) | (simp [*]; done), by repeat (first | exact Drawn0.refl _ | apply Drawn0.step)⟩
   ·replace c11 := Bool.eq_false_iff.mpr c11
    subst c11
    have H1 : ((num_years.f a0).bind fun t180 => (num_Day.l0 kj3 a0 a1 (wrap64 ((wrap64 ((wrap64 ((-719162) + t180)) + a2)) - 1)) 1)) = some (r1, r2) := by rw [if_neg (show ¬ (false = true) by decide)] at H; exact H
    clear H
    have H := H1
    clear H1
    replace H := Option.bind_eq_some_iff.mp H
    obtain ⟨t180, A120, H⟩ := H
    replace H : (num_Day.l0 kj3 a0 a1 (wrap64 ((wrap64 ((wrap64 ((-719162) + t180)) + a2)) - 1)) 1) = some (r1, r2) := H
    have A12 := Aside0.mk A120
    clear A120
    have H' := Aside0.mk H
    clear H
    go_wp2_with (first | ((with_reducible refine gate_callee (f := 101) rfl ?_); refine goesL_ (some 36) rfl rfl Tryz.func101 zE5_5 rfl #[.int .i64 a0] rfl zE5_4 ?_; (with_reducible refine (num_years.calls a0 t180 _ A12.out).mono ?_); rintro e w' ⟨rfl, ⟨nd, rfl⟩⟩; refine ⟨_, rfl, ?_⟩))
    go_loopg [8, 9] kj3 (fun kq v8 v9 w' => ∃ (x8_2 : Int) (x9_2 : Int), v8 = .int .i64 x8_2 ∧ v9 = .int .i64 x9_2 ∧ Aside0 (num_Day.l0 kq a0 a1 x8_2 x9_2 = some (r1, r2)) ∧ Aside0 (kq ≤ kj3) ∧ Drawn0 w w')
    case atStart => exact ⟨(wrap64 ((wrap64 ((wrap64 ((-719162) + t180)) + a2)) - 1)), (1), zE5_3, zE5_3, H', ⟨Nat.le_refl _⟩, by repeat (first | exact Drawn0.refl _ | apply Drawn0.step)⟩
    case round =>
     clear H'
     (try clear c11)
     obtain ⟨x8_2, x9_2, rfl, rfl, HA, HK2, ⟨m2, rfl⟩⟩ := hrel
     cases gk with
     | zero => exact absurd HA.out (by simp [num_Day.l0])
     | succ k2 =>
      have H := HA.out
      clear HA
      simp only [num_Day.l0] at H
      by_cases c13 : x9_2 < a1
      ·rw [if_pos c13] at H
       have c13b0 : decide (x9_2 < a1) = true := decide_eq_true c13
       clear c13
       replace H := Option.bind_eq_some_iff.mp H
       obtain ⟨t181, A140, H⟩ := H
       replace H : (num_Day.l0 k2 a0 a1 (wrap64 (x8_2 + t181)) (wrap64 (x9_2 + 1))) = some (r1, r2) := H
       have A14 := Aside0.mk A140
       clear A140
       have H' := Aside0.mk H
       clear H
       go_wp2_with (first | ((with_reducible refine gate_callee (f := 100) rfl ?_); refine goesL_ (some 49) rfl rfl Tryz.func100 zE5_5 rfl #[.int .i64 a0, .int .i64 x9_2] rfl zE5_4 ?_; (with_reducible refine (num_month.calls a0 x9_2 t181 _ A14.out).mono ?_); rintro e w' ⟨rfl, ⟨nd, rfl⟩⟩; refine ⟨_, rfl, ?_⟩))
       go_roundg k2
       case measure => have := HJ3.out; have := HK2.out; omega
       case rel => exact ⟨(wrap64 (x8_2 + t181)), (wrap64 (x9_2 + 1)), zE5_3, zE5_3, H', ⟨by have := HJ3.out; have := HK2.out; omega⟩, by repeat (first | exact Drawn0.refl _ | apply Drawn0.step)⟩
      ·rw [if_neg c13] at H
       have c13b0 : decide (x9_2 < a1) = false := decide_eq_false c13
       clear c13
       simp only [Option.some.injEq, Prod.mk.injEq] at H
       obtain ⟨rfl, rfl⟩ := H
       go_wp2
       go_ret2
       exact ⟨by first | rfl | (simp; done) | (simp [*]; done), by repeat (first | exact Drawn0.refl _ | apply Drawn0.step)⟩

/-! ### num_ParseDay: function 35, by hand -/
def num_ParseDay.atoi (s : ByteArray) : Option Int := match Lib.atoiAll s.data.toList with | .ok v => some v | .range => none | _ => none
def num_ParseDay.day (k : Nat) (a0 : ByteArray) : Option (Int × Int) := (num_ParseDay.atoi (a0.extract 0 4)).bind fun y => (num_ParseDay.atoi (a0.extract 5 7)).bind fun m => (num_ParseDay.atoi (a0.extract 8 10)).bind fun d => num_Day.f k y m d
def num_ParseDay.f (k : Nat) (a0 : ByteArray) : Option (Int × Int) := if a0.size = 10 then (if bt a0 4 = 45 then (if bt a0 7 = 45 then ((num_digits.f ((a0.extract 0 4 ++ a0.extract 5 7) ++ a0.extract 8 10)).bind fun t => if t = true then num_ParseDay.day k a0 else some (0, 12)) else some (0, 12)) else some (0, 12)) else some (0, 12)
theorem num_ParseDay.mono : ∀ a0 k, LeO (num_ParseDay.f k a0) (num_ParseDay.f (k + 1) a0) := by
 intro a0 k
 unfold num_ParseDay.f num_ParseDay.day
 repeat' first
   | (with_reducible exact num_Day.mono _ _ _ _)
   | (with_reducible exact LeO.refl _)
   | (with_reducible exact LeO.none _)
   | (with_reducible refine LeO.ite ?_ ?_)
   | (with_reducible refine LeO.bind ?_ (fun _ => ?_))
   | exact num_Day.mono _ _ _ _
theorem num_ParseDay.aOk (s : ByteArray) (v : Int) (w : World) (hs : s.size ≤ 9223372036854775806) (h : num_ParseDay.atoi s = some v) :
  Calls Tryz.prog 66 #[.string s] w fun e w' => e = .returned (.tuple #[.int .i64 v, .nilIface]) ∧ Below w.heap.size w w' := by
 unfold num_ParseDay.atoi at h
 cases hq : Lib.atoiAll s.data.toList with
 | ok u =>
  rw [hq] at h
  obtain rfl := Option.some.inj h
  refine (Tryz.strconv_Atoi_ok s hs u hq w).mono ?_
  rintro e w' ⟨rfl, hw⟩
  refine ⟨rfl, ?_⟩
  rcases hw with rfl | ⟨t, rfl⟩
  ·exact Below.refl _ _
  ·exact Joins.below_bytesWorld _ _ _ _ (Nat.le_refl _)
 | range => rw [hq] at h; exact absurd h (by simp)
 | _ => rw [hq] at h; exact absurd h (by simp)
set_option maxHeartbeats 8000000 in
set_option maxRecDepth 100000 in
theorem num_ParseDay.no0 (a0 : ByteArray) (w : World) (cz : ¬ a0.size = 10) :
  Calls Tryz.prog 35 #[.string a0] w fun e w' => e = .returned (.tuple #[.int .i64 0, .int .i64 12]) ∧ Below w.heap.size w w' := by
 have HB := Aside0.mk (Below.refl w.heap.size w)
 have z0 : ((a0.size : Int) == 10) = false := beq_eq_false_iff_ne.mpr zE5_2
 have z1 : ((a0.size : Int) != 10) = true := bne_iff_ne.mpr zE5_2
 clear cz
 go_enter Tryz.func35, Tryz.ntmps35
 go_wp2
 go_quiet (fail)
 go_wp2
 go_ret2
 exact ⟨by first | rfl | (simp; done) | (simp [*]; done), zE5_0⟩
set_option maxHeartbeats 8000000 in
set_option maxRecDepth 100000 in
theorem num_ParseDay.no1 (a0 : ByteArray) (w : World) (cz : a0.size = 10) (c4 : ¬ bt a0 4 = 45) :
  Calls Tryz.prog 35 #[.string a0] w fun e w' => e = .returned (.tuple #[.int .i64 0, .int .i64 12]) ∧ Below w.heap.size w w' := by
 have HB := Aside0.mk (Below.refl w.heap.size w)
 have z0 : ((a0.size : Int) == 10) = true := beq_iff_eq.mpr zE5_2
 have z1 : ((a0.size : Int) != 10) = false := bne_eq_false_iff_eq.mpr zE5_2
 have q4 : 4 < a0.size := by omega
 have hx4 : ∀ h : 4 < a0.size, ((a0[4]'h).toNat : Int) = bt a0 4 := bt_at a0 4
 have qi4 : (4 < (a0.size : Int)) = True := eq_true zE5_2
 replace q4 := eq_true q4
 have e4b0 : ((bt a0 4) == 45) = false := beq_eq_false_iff_ne.mpr c4
 have e4b1 : ((bt a0 4) != 45) = true := bne_iff_ne.mpr c4
 clear c4
 clear cz
 go_enter Tryz.func35, Tryz.ntmps35
 go_wp2
 go_quiet (fail)
 go_wp2
 go_ret2
 exact ⟨by first | rfl | (simp; done) | (simp [*]; done), zE5_0⟩
set_option maxHeartbeats 8000000 in
set_option maxRecDepth 100000 in
theorem num_ParseDay.no2 (a0 : ByteArray) (w : World) (cz : a0.size = 10) (c4 : bt a0 4 = 45) (c7 : ¬ bt a0 7 = 45) :
  Calls Tryz.prog 35 #[.string a0] w fun e w' => e = .returned (.tuple #[.int .i64 0, .int .i64 12]) ∧ Below w.heap.size w w' := by
 have HB := Aside0.mk (Below.refl w.heap.size w)
 have z0 : ((a0.size : Int) == 10) = true := beq_iff_eq.mpr zE5_2
 have z1 : ((a0.size : Int) != 10) = false := bne_eq_false_iff_eq.mpr zE5_2
 have q4 : 4 < a0.size := by omega
 have hx4 : ∀ h : 4 < a0.size, ((a0[4]'h).toNat : Int) = bt a0 4 := bt_at a0 4
 have qi4 : (4 < (a0.size : Int)) = True := eq_true zE5_2
 replace q4 := eq_true q4
 have e4b0 : ((bt a0 4) == 45) = true := beq_iff_eq.mpr c4
 have e4b1 : ((bt a0 4) != 45) = false := bne_eq_false_iff_eq.mpr c4
 clear c4
 have q7 : 7 < a0.size := by omega
 have hx7 : ∀ h : 7 < a0.size, ((a0[7]'h).toNat : Int) = bt a0 7 := bt_at a0 7
 have qi7 : (7 < (a0.size : Int)) = True := eq_true zE5_2
 replace q7 := eq_true q7
 have e7b0 : ((bt a0 7) == 45) = false := beq_eq_false_iff_ne.mpr c7
 have e7b1 : ((bt a0 7) != 45) = true := bne_iff_ne.mpr c7
 clear c7
 clear cz
 go_enter Tryz.func35, Tryz.ntmps35
 go_wp2
 go_quiet (fail)
 go_wp2
 go_ret2
 exact ⟨by first | rfl | (simp; done) | (simp [*]; done), zE5_0⟩
set_option maxHeartbeats 8000000 in
set_option maxRecDepth 100000 in
theorem num_ParseDay.no3 (a0 : ByteArray) (w : World) (cz : a0.size = 10) (c4 : bt a0 4 = 45) (c7 : bt a0 7 = 45) (h1 : num_digits.f ((a0.extract 0 4 ++ a0.extract 5 7) ++ a0.extract 8 10) = some false) :
  Calls Tryz.prog 35 #[.string a0] w fun e w' => e = .returned (.tuple #[.int .i64 0, .int .i64 12]) ∧ Below w.heap.size w w' := by
 have HB := Aside0.mk (Below.refl w.heap.size w)
 have A1 := Aside0.mk h1
 clear h1
 have z0 : ((a0.size : Int) == 10) = true := beq_iff_eq.mpr zE5_2
 have z1 : ((a0.size : Int) != 10) = false := bne_eq_false_iff_eq.mpr zE5_2
 have q4 : 4 < a0.size := by omega
 have hx4 : ∀ h : 4 < a0.size, ((a0[4]'h).toNat : Int) = bt a0 4 := bt_at a0 4
 have qi4 : (4 < (a0.size : Int)) = True := eq_true zE5_2
 replace q4 := eq_true q4
 have e4b0 : ((bt a0 4) == 45) = true := beq_iff_eq.mpr c4
 have e4b1 : ((bt a0 4) != 45) = false := bne_eq_false_iff_eq.mpr c4
 clear c4
 have q7 : 7 < a0.size := by omega
 have hx7 : ∀ h : 7 < a0.size, ((a0[7]'h).toNat : Int) = bt a0 7 := bt_at a0 7
 have qi7 : (7 < (a0.size : Int)) = True := eq_true zE5_2
 replace q7 := eq_true q7
 have e7b0 : ((bt a0 7) == 45) = true := beq_iff_eq.mpr c7
 have e7b1 : ((bt a0 7) != 45) = false := bne_eq_false_iff_eq.mpr c7
 clear c7
 have s4 : ((4 : Int) ≤ (a0.size : Int)) = True := eq_true zE5_2
 have t4 : (4 ≤ a0.size) = True := eq_true zE5_2
 have s5 : ((5 : Int) ≤ (a0.size : Int)) = True := eq_true zE5_2
 have t5 : (5 ≤ a0.size) = True := eq_true zE5_2
 have s7 : ((7 : Int) ≤ (a0.size : Int)) = True := eq_true zE5_2
 have t7 : (7 ≤ a0.size) = True := eq_true zE5_2
 have s8 : ((8 : Int) ≤ (a0.size : Int)) = True := eq_true zE5_2
 have t8 : (8 ≤ a0.size) = True := eq_true zE5_2
 have s10 : a0.size = 10 := cz
 clear cz
 go_enter Tryz.func35, Tryz.ntmps35
 go_wp2
 go_still_tail 22, zE5_5
 change wpList _ _ _ _ _ w.drew
 go_wp2_with (first | (go_at_call 62; (with_reducible refine (num_digits.calls ((a0.extract 0 4 ++ a0.extract 5 7) ++ a0.extract 8 10) false _ A1.out).mono ?_); rintro e w8 ⟨rfl, hb⟩; have n0_ := Aside0.mk (below_step zE5_0 hb); clear HB; have HB := n0_; clear n0_; clear hb))
 go_ret2
 exact ⟨by first | rfl | (simp; done) | (simp [*]; done), zE5_0⟩
set_option maxHeartbeats 8000000 in
set_option maxRecDepth 100000 in
theorem num_ParseDay.yes (k : Nat) (a0 : ByteArray) (y m d r1 r2 : Int) (w : World) (cz : a0.size = 10) (c4 : bt a0 4 = 45) (c7 : bt a0 7 = 45) (h1 : num_digits.f ((a0.extract 0 4 ++ a0.extract 5 7) ++ a0.extract 8 10) = some true) (h2 : num_ParseDay.atoi (a0.extract 0 4) = some y) (h3 : num_ParseDay.atoi (a0.extract 5 7) = some m) (h4 : num_ParseDay.atoi (a0.extract 8 10) = some d) (h5 : num_Day.f k y m d = some (r1, r2)) :
  Calls Tryz.prog 35 #[.string a0] w fun e w' => e = .returned (.tuple #[.int .i64 r1, .int .i64 r2]) ∧ Below w.heap.size w w' := by
 have HB := Aside0.mk (Below.refl w.heap.size w)
 have A1 := Aside0.mk h1
 have A2 := Aside0.mk h2
 have A3 := Aside0.mk h3
 have A4 := Aside0.mk h4
 have A5 := Aside0.mk h5
 clear h1 h2 h3 h4 h5
 have z0 : ((a0.size : Int) == 10) = true := beq_iff_eq.mpr zE5_2
 have z1 : ((a0.size : Int) != 10) = false := bne_eq_false_iff_eq.mpr zE5_2
 have q4 : 4 < a0.size := by omega
 have hx4 : ∀ h : 4 < a0.size, ((a0[4]'h).toNat : Int) = bt a0 4 := bt_at a0 4
 have qi4 : (4 < (a0.size : Int)) = True := eq_true zE5_2
 replace q4 := eq_true q4
 have e4b0 : ((bt a0 4) == 45) = true := beq_iff_eq.mpr c4
 have e4b1 : ((bt a0 4) != 45) = false := bne_eq_false_iff_eq.mpr c4
 clear c4
 have q7 : 7 < a0.size := by omega
 have hx7 : ∀ h : 7 < a0.size, ((a0[7]'h).toNat : Int) = bt a0 7 := bt_at a0 7
 have qi7 : (7 < (a0.size : Int)) = True := eq_true zE5_2
 replace q7 := eq_true q7
 have e7b0 : ((bt a0 7) == 45) = true := beq_iff_eq.mpr c7
 have e7b1 : ((bt a0 7) != 45) = false := bne_eq_false_iff_eq.mpr c7
 clear c7
 have s4 : ((4 : Int) ≤ (a0.size : Int)) = True := eq_true zE5_2
 have t4 : (4 ≤ a0.size) = True := eq_true zE5_2
 have s5 : ((5 : Int) ≤ (a0.size : Int)) = True := eq_true zE5_2
 have t5 : (5 ≤ a0.size) = True := eq_true zE5_2
 have s7 : ((7 : Int) ≤ (a0.size : Int)) = True := eq_true zE5_2
 have t7 : (7 ≤ a0.size) = True := eq_true zE5_2
 have s8 : ((8 : Int) ≤ (a0.size : Int)) = True := eq_true zE5_2
 have t8 : (8 ≤ a0.size) = True := eq_true zE5_2
 have s10 : a0.size = 10 := cz
 clear cz
 go_enter Tryz.func35, Tryz.ntmps35
 go_wp2
 go_still_tail 22, zE5_5
 change wpList _ _ _ _ _ w.drew
 go_wp2_with (first | (go_at_call 62; (with_reducible refine (num_digits.calls ((a0.extract 0 4 ++ a0.extract 5 7) ++ a0.extract 8 10) true _ A1.out).mono ?_); rintro e w8 ⟨rfl, hb⟩; have n0_ := Aside0.mk (below_step zE5_0 hb); clear HB; have HB := n0_; clear n0_; clear hb) | (go_at_call 66; (with_reducible refine (num_ParseDay.aOk (a0.extract 0 4) y _ (by simp [ByteArray.size_extract]; omega) A2.out).mono ?_); rintro e w9 ⟨rfl, hb⟩; have n0_ := Aside0.mk (below_step zE5_0 hb); clear HB; have HB := n0_; clear n0_; clear hb) | (go_at_call 66; (with_reducible refine (num_ParseDay.aOk (a0.extract 5 7) m _ (by simp [ByteArray.size_extract]; omega) A3.out).mono ?_); rintro e w7 ⟨rfl, hb⟩; have n0_ := Aside0.mk (below_step zE5_0 hb); clear HB; have HB := n0_; clear n0_; clear hb) | (go_at_call 66; (with_reducible refine (num_ParseDay.aOk (a0.extract 8 10) d _ (by simp [ByteArray.size_extract]; omega) A4.out).mono ?_); rintro e w6 ⟨rfl, hb⟩; have n0_ := Aside0.mk (below_step zE5_0 hb); clear HB; have HB := n0_; clear n0_; clear hb) | (go_at_call 67; (with_reducible refine (num_Day.calls k y m d r1 r2 _ A5.out).mono ?_); rintro e w' ⟨rfl, ⟨nd, rfl⟩⟩; (try first | exact ⟨rfl, _, World.drewN_drewN _ _ _⟩ | exact ⟨rfl, _, Eq.trans (World.drewN_drewN _ _ _) (congrArg (World.drewN _) (Nat.add_assoc _ _ _))⟩)))
 go_ret2
 exact ⟨by first | rfl | (simp; done) | (simp [*]; done), zE5_0⟩
theorem num_ParseDay.calls (k : Nat) (a0 : ByteArray) (r1 : Int) (r2 : Int) (w : World) (h : num_ParseDay.f k a0 = some (r1, r2)) :
  Calls Tryz.prog 35 #[.string a0] w fun e w' => e = .returned (.tuple #[.int .i64 r1, .int .i64 r2]) ∧ Below w.heap.size w w' := by
 have bad : some ((0 : Int), (12 : Int)) = some (r1, r2) → r1 = 0 ∧ r2 = 12 := fun q => by
  simp only [Option.some.injEq, Prod.mk.injEq] at q
  exact ⟨q.1.symm, q.2.symm⟩
 unfold num_ParseDay.f at h
 by_cases cz : a0.size = 10
 ·rw [if_pos cz] at h
  by_cases c4 : bt a0 4 = 45
  ·rw [if_pos c4] at h
   by_cases c7 : bt a0 7 = 45
   ·rw [if_pos c7] at h
    obtain ⟨t, h1, h⟩ := Option.bind_eq_some_iff.mp h
    cases t with
    | true =>
     rw [if_pos rfl] at h
     unfold num_ParseDay.day at h
     obtain ⟨y, h2, h⟩ := Option.bind_eq_some_iff.mp h
     obtain ⟨m, h3, h⟩ := Option.bind_eq_some_iff.mp h
     obtain ⟨d, h4, h⟩ := Option.bind_eq_some_iff.mp h
     exact num_ParseDay.yes k a0 y m d r1 r2 w cz c4 c7 h1 h2 h3 h4 h
    | false =>
     rw [if_neg (by simp)] at h
     obtain ⟨rfl, rfl⟩ := bad h
     exact num_ParseDay.no3 a0 w cz c4 c7 h1
   ·rw [if_neg c7] at h
    obtain ⟨rfl, rfl⟩ := bad h
    exact num_ParseDay.no2 a0 w cz c4 c7
  ·rw [if_neg c4] at h
   obtain ⟨rfl, rfl⟩ := bad h
   exact num_ParseDay.no1 a0 w cz c4
 ·rw [if_neg cz] at h
  obtain ⟨rfl, rfl⟩ := bad h
  exact num_ParseDay.no0 a0 w cz


/-! ### value_read: function 13, by hand -/
def value_read.fin (t0 t1 n e : Int) : Int × Int × Bool × Int × ByteArray × Int := if e = 0 then (t0, t1, false, n, (⟨#[]⟩ : ByteArray), 0) else (0, 0, false, 0, (⟨#[]⟩ : ByteArray), 22)
def value_read.f (k : Nat) (a0 : ByteArray) (t0 t1 : Int) : Option (Int × Int × Bool × Int × ByteArray × Int) :=
 if t0 = 1 then ((value_capitals.f a0).bind fun c => if c = (⟨#[84, 82, 85, 69]⟩ : ByteArray) then some (value_read.fin 1 t1 1 0) else if c = (⟨#[70, 65, 76, 83, 69]⟩ : ByteArray) then some (value_read.fin 1 t1 0 0) else some (value_read.fin 1 t1 0 22))
 else if t0 = 2 then ((num_ParseInt.f a0).bind fun r => some (value_read.fin 2 t1 r.1 r.2))
 else if t0 = 3 then ((num_ParseDec.f a0).bind fun r => if r.2.2 = 0 then ((num_Scale.f k r.1 r.2.1 t1).bind fun q => some (value_read.fin 3 t1 q.1 q.2)) else some (value_read.fin 3 t1 r.1 r.2.2))
 else if t0 = 5 then ((num_ParseDay.f k a0).bind fun r => some (value_read.fin 5 t1 r.1 r.2))
 else some (value_read.fin t0 t1 0 0)
theorem value_read.mono : ∀ a0 a1 a2 k, LeO (value_read.f k a0 a1 a2) (value_read.f (k + 1) a0 a1 a2) := by
 intro a0 a1 a2 k
 unfold value_read.f
 repeat' first
   | (with_reducible exact num_ParseDay.mono _ _)
   | (with_reducible exact num_Scale.mono _ _ _ _)
   | (with_reducible exact LeO.refl _)
   | (with_reducible exact LeO.none _)
   | (with_reducible refine LeO.ite ?_ ?_)
   | (with_reducible refine LeO.bind ?_ (fun _ => ?_))
   | exact num_ParseDay.mono _ _
   | exact num_Scale.mono _ _ _ _
abbrev value_read.ES1 : Array MapEntry := #[{ key := .string ⟨#[84, 82, 85, 69]⟩, val := .int .i64 1, born := 0 }]
abbrev value_read.ES2 : Array MapEntry := #[{ key := .string ⟨#[84, 82, 85, 69]⟩, val := .int .i64 1, born := 0 }, { key := .string ⟨#[70, 65, 76, 83, 69]⟩, val := .int .i64 0, born := 1 }]
theorem value_read.set_new (W : World) (o o' : Obj) : ({ (W.alloc o) with heap := (W.alloc o).heap.setIfInBounds W.heap.size o' } : World) = W.alloc o' := by
 have h : (W.heap.push o).setIfInBounds W.heap.size o' = W.heap.push o' := by
  apply Array.ext
  ·simp
  ·intro i h1 h2
   rw [Array.getElem_setIfInBounds]
   by_cases e : W.heap.size = i
   ·subst e; simp
   ·rw [if_neg e, Array.getElem_push, Array.getElem_push]
    have h2' : i < W.heap.size := by simp at h2; omega
    rw [dif_pos h2', dif_pos h2']
   case h₂ => rw [Array.size_push]; simp at h2; omega
 show ({ (W.alloc o) with heap := (W.heap.push o).setIfInBounds W.heap.size o' } : World) = _
 rw [h]
 rfl
theorem value_read.upd1 (W : World) : (Instr.mapUpdate 51 (.map (some W.heap.size)) (.string ⟨#[84, 82, 85, 69]⟩) (.int .i64 1)).run Tryz.prog (W.alloc (.map #[] 0)) = .ok () (W.alloc (.map value_read.ES1 1)) := by
 rw [run_mapUpdate_first (P := Tryz.prog) (W.alloc (.map #[] 0)) 51 9 2 W.heap.size 0 ⟨#[84, 82, 85, 69]⟩ (.int .i64 1) Tryz.underlying51 Tryz.underlying9 (heap_alloc_new W _), value_read.set_new]
theorem value_read.upd2 (W : World) : (Instr.mapUpdate 51 (.map (some W.heap.size)) (.string ⟨#[70, 65, 76, 83, 69]⟩) (.int .i64 0)).run Tryz.prog (W.alloc (.map value_read.ES1 1)) = .ok () (W.alloc (.map value_read.ES2 2)) := by
 have hb : (W.alloc (.map value_read.ES1 1)).heap[W.heap.size]? = some (.map value_read.ES1 1) := heap_alloc_new W _
 have hf : Instr.findNow .string (.string ⟨#[70, 65, 76, 83, 69]⟩) value_read.ES1.toList 0 = some none := rfl
 have hc : (Instr.checkKey false 10000 9 (.string ⟨#[70, 65, 76, 83, 69]⟩)).run Tryz.prog (W.alloc (.map value_read.ES1 1)) = .ok () (W.alloc (.map value_read.ES1 1)) := MapKept.run_checkKey (k := .string ⟨#[70, 65, 76, 83, 69]⟩) Tryz.underlying9 (by simp [MapKept.IsKey]) false 9999
 have := value_read.set_new W (.map value_read.ES1 1) (.map value_read.ES2 2)
 simp [Instr.mapUpdate, run_underlying Tryz.underlying51, MapKept.run_getObj_map hb, hc, MapKept.run_findKey Tryz.underlying9 hf, MapKept.run_setObj_map _ hb, Result.andThen]
 exact this
theorem value_read.lookT {W : World} {r : Nat} (hb : W.heap[r]? = some (.map value_read.ES2 2)) : (Instr.lookup 51 (.map (some r)) (.string ⟨#[84, 82, 85, 69]⟩) true).run Tryz.prog W = .ok (.tuple #[.int .i64 1, .bool true]) W := by
 have hf : Instr.findNow .string (.string ⟨#[84, 82, 85, 69]⟩) value_read.ES2.toList 0 = some (some (0, .int .i64 1)) := rfl
 have hc : (Instr.checkKey false 10000 9 (.string ⟨#[84, 82, 85, 69]⟩)).run Tryz.prog W = .ok () W := MapKept.run_checkKey (k := .string ⟨#[84, 82, 85, 69]⟩) Tryz.underlying9 (by simp [MapKept.IsKey]) false 9999
 simp [Instr.lookup, run_underlying Tryz.underlying51, MapKept.run_getObj_map hb, hc, MapKept.run_findKey Tryz.underlying9 hf, Result.andThen]
theorem value_read.lookF {W : World} {r : Nat} (hb : W.heap[r]? = some (.map value_read.ES2 2)) : (Instr.lookup 51 (.map (some r)) (.string ⟨#[70, 65, 76, 83, 69]⟩) true).run Tryz.prog W = .ok (.tuple #[.int .i64 0, .bool true]) W := by
 have hf : Instr.findNow .string (.string ⟨#[70, 65, 76, 83, 69]⟩) value_read.ES2.toList 0 = some (some (1, .int .i64 0)) := rfl
 have hc : (Instr.checkKey false 10000 9 (.string ⟨#[70, 65, 76, 83, 69]⟩)).run Tryz.prog W = .ok () W := MapKept.run_checkKey (k := .string ⟨#[70, 65, 76, 83, 69]⟩) Tryz.underlying9 (by simp [MapKept.IsKey]) false 9999
 simp [Instr.lookup, run_underlying Tryz.underlying51, MapKept.run_getObj_map hb, hc, MapKept.run_findKey Tryz.underlying9 hf, Result.andThen]
theorem value_read.lookN {W : World} {r : Nat} (hb : W.heap[r]? = some (.map value_read.ES2 2)) (c : ByteArray) (h1 : ¬ c = ⟨#[84, 82, 85, 69]⟩) (h2 : ¬ c = ⟨#[70, 65, 76, 83, 69]⟩) : (Instr.lookup 51 (.map (some r)) (.string c) true).run Tryz.prog W = .ok (.tuple #[.int .i64 0, .bool false]) W := by
 have hf : Instr.findNow .string (.string c) value_read.ES2.toList 0 = some none := by
  have beq : ∀ a b : ByteArray, (a == b) = true → a = b := fun a b h => by
   obtain ⟨x⟩ := a
   obtain ⟨y⟩ := b
   have h' : (x == y) = true := h
   rw [eq_of_beq h']
  have hq1 : (c == (⟨#[84, 82, 85, 69]⟩ : ByteArray)) = false := Bool.eq_false_iff.2 fun z => h1 (beq _ _ z)
  have hq2 : (c == (⟨#[70, 65, 76, 83, 69]⟩ : ByteArray)) = false := Bool.eq_false_iff.2 fun z => h2 (beq _ _ z)
  simp [Instr.findNow, Instr.sameNow, hq1, hq2]
 have hc : (Instr.checkKey false 10000 9 (.string c)).run Tryz.prog W = .ok () W := MapKept.run_checkKey (k := .string c) Tryz.underlying9 (by simp [MapKept.IsKey]) false 9999
 simp [Instr.lookup, run_underlying Tryz.underlying51, MapKept.run_getObj_map hb, hc, MapKept.run_findKey Tryz.underlying9 hf, Result.andThen]
theorem value_read.after2 {w w8 : World} {o1 : Array Value} {t : TypeId} (hb : Below ((w.alloc (.cells o1 t)).alloc (.cells #[.int .i64 0, .int .i64 0, .bool false, .int .i64 0, .string (⟨#[]⟩ : ByteArray)] 25)).heap.size ((w.alloc (.cells o1 t)).alloc (.cells #[.int .i64 0, .int .i64 0, .bool false, .int .i64 0, .string (⟨#[]⟩ : ByteArray)] 25)) w8) :
  w8.heap[w.heap.size]? = some (.cells o1 t (0, 0)) ∧ w8.heap[w.heap.size + 1]? = some (.cells #[.int .i64 0, .int .i64 0, .bool false, .int .i64 0, .string (⟨#[]⟩ : ByteArray)] 25 (0, 0)) := by
 have e1 : ((w.alloc (.cells o1 t)).alloc (.cells #[.int .i64 0, .int .i64 0, .bool false, .int .i64 0, .string (⟨#[]⟩ : ByteArray)] 25)).heap[w.heap.size]? = some (.cells o1 t (0, 0)) := blk_alloc (heap_alloc_new w _) _
 have e2 : ((w.alloc (.cells o1 t)).alloc (.cells #[.int .i64 0, .int .i64 0, .bool false, .int .i64 0, .string (⟨#[]⟩ : ByteArray)] 25)).heap[w.heap.size + 1]? = some (.cells #[.int .i64 0, .int .i64 0, .bool false, .int .i64 0, .string (⟨#[]⟩ : ByteArray)] 25 (0, 0)) := by
  have := heap_alloc_new (w.alloc (.cells o1 t)) (.cells #[.int .i64 0, .int .i64 0, .bool false, .int .i64 0, .string (⟨#[]⟩ : ByteArray)] 25)
  rwa [World.size_alloc] at this
 exact ⟨blk_below e1 hb, blk_below e2 hb⟩
theorem value_read.after3 {w w8 : World} {o1 : Array Value} {t : TypeId} (hb : Below (((w.alloc (.cells o1 t)).alloc (.cells #[.int .i64 0, .int .i64 0, .bool false, .int .i64 0, .string (⟨#[]⟩ : ByteArray)] 25)).alloc (.map value_read.ES2 2)).heap.size (((w.alloc (.cells o1 t)).alloc (.cells #[.int .i64 0, .int .i64 0, .bool false, .int .i64 0, .string (⟨#[]⟩ : ByteArray)] 25)).alloc (.map value_read.ES2 2)) w8) :
  w8.heap[w.heap.size]? = some (.cells o1 t (0, 0)) ∧ w8.heap[w.heap.size + 1]? = some (.cells #[.int .i64 0, .int .i64 0, .bool false, .int .i64 0, .string (⟨#[]⟩ : ByteArray)] 25 (0, 0)) ∧ w8.heap[w.heap.size + 1 + 1]? = some (.map value_read.ES2 2) := by
 obtain ⟨e1, e2⟩ := value_read.after2 (w := w) (o1 := o1) (t := t) (Below.refl _ _)
 have e3 : (((w.alloc (.cells o1 t)).alloc (.cells #[.int .i64 0, .int .i64 0, .bool false, .int .i64 0, .string (⟨#[]⟩ : ByteArray)] 25)).alloc (.map value_read.ES2 2)).heap[w.heap.size + 1 + 1]? = some (.map value_read.ES2 2) := by
  have := heap_alloc_new ((w.alloc (.cells o1 t)).alloc (.cells #[.int .i64 0, .int .i64 0, .bool false, .int .i64 0, .string (⟨#[]⟩ : ByteArray)] 25)) (.map value_read.ES2 2)
  rwa [World.size_alloc, World.size_alloc] at this
 exact ⟨blk_below (blk_alloc e1 _) hb, blk_below (blk_alloc e2 _) hb, blk_below e3 hb⟩
theorem value_read.new2 (w : World) (o1 o2 : Obj) : ((w.alloc o1).alloc o2).heap[w.heap.size + 1]? = some o2 := by
 have := heap_alloc_new (w.alloc o1) o2
 rwa [World.size_alloc] at this
set_option maxHeartbeats 8000000 in
set_option maxRecDepth 100000 in
theorem value_read.intOk (a0 : ByteArray) (n : Int) (t1 : Int) (w : World) (hG : Gl w) (h1 : num_ParseInt.f a0 = some (n, 0)) :
  Calls Tryz.prog 13 #[.string a0, .agg #[.int .i64 2, .int .i64 t1]] w fun e w' => e = .returned (.tuple #[.agg #[.int .i64 2, .int .i64 t1, .bool false, .int .i64 n, .string (⟨#[]⟩ : ByteArray)], .int .i64 0]) ∧ Below w.heap.size w w' := by
 have hu25 := Tryz.underlying25
 have HB := Aside0.mk (Below.refl w.heap.size w)
 have HG := Aside0.mk hG
 have A1 := Aside0.mk h1
 clear hG h1
 go_enter Tryz.func13, Tryz.ntmps13
 go_wp2_with (first | (go_at_call 33; (with_reducible refine (num_ParseInt.calls a0 n 0 _ A1.out (Gl.of HG.out zE5_0)).mono ?_); rintro e w8 ⟨rfl, hb⟩; obtain ⟨k1, k2⟩ := value_read.after2 hb; have hcb0 : w8.cell? ⟨w.heap.size, 0, none⟩ = some (.int .i64 2) := (blk_cell k1 0).trans rfl; have hcb1 : w8.cell? ⟨w.heap.size, 1, none⟩ = some (.int .i64 t1) := (blk_cell k1 1).trans rfl; have hcz0 : w8.cell? ⟨w.heap.size + 1, 0, none⟩ = some (.int .i64 0) := (blk_cell k2 0).trans rfl; have hfz0 := blk_frozen k2 0; have hcz1 : w8.cell? ⟨w.heap.size + 1, 1, none⟩ = some (.int .i64 0) := (blk_cell k2 1).trans rfl; have hfz1 := blk_frozen k2 1; have hcz2 : w8.cell? ⟨w.heap.size + 1, 2, none⟩ = some (.bool false) := (blk_cell k2 2).trans rfl; have hfz2 := blk_frozen k2 2; have hcz3 : w8.cell? ⟨w.heap.size + 1, 3, none⟩ = some (.int .i64 0) := (blk_cell k2 3).trans rfl; have hfz3 := blk_frozen k2 3; have hcz4 : w8.cell? ⟨w.heap.size + 1, 4, none⟩ = some (.string (⟨#[]⟩ : ByteArray)) := (blk_cell k2 4).trans rfl; have hfz4 := blk_frozen k2 4; have n0_ := Aside0.mk (below_step zE5_0 hb); clear HB; have HB := n0_; clear n0_; clear hb))
 refine bodyPost_ret (results_ct rfl _ _ (w.heap.size + 1) 25 #[.int .i64 2, .int .i64 t1, .bool false, .int .i64 n, .string (⟨#[]⟩ : ByteArray)] (0, 0) _ rfl (by (with_reducible repeat (first | refine blk_drewN ?_ _ | refine blk_drew ?_ | refine blk_alloc ?_ _)); refine blk_put (cs := #[.int .i64 2, .int .i64 t1, .bool false, .int .i64 n, .string (⟨#[]⟩ : ByteArray)]) ?_ 4 _ rfl; (with_reducible repeat (first | refine blk_drewN ?_ _ | refine blk_drew ?_ | refine blk_alloc ?_ _)); refine blk_put (cs := #[.int .i64 2, .int .i64 t1, .bool false, .int .i64 0, .string (⟨#[]⟩ : ByteArray)]) ?_ 3 _ rfl; (with_reducible repeat (first | refine blk_drewN ?_ _ | refine blk_drew ?_ | refine blk_alloc ?_ _)); refine blk_put (cs := #[.int .i64 2, .int .i64 t1, .bool false, .int .i64 0, .string (⟨#[]⟩ : ByteArray)]) ?_ 2 _ rfl; (with_reducible repeat (first | refine blk_drewN ?_ _ | refine blk_drew ?_ | refine blk_alloc ?_ _)); refine blk_put (cs := #[.int .i64 2, .int .i64 0, .bool false, .int .i64 0, .string (⟨#[]⟩ : ByteArray)]) ?_ 1 _ rfl; (with_reducible repeat (first | refine blk_drewN ?_ _ | refine blk_drew ?_ | refine blk_alloc ?_ _)); refine blk_put (cs := #[.int .i64 0, .int .i64 0, .bool false, .int .i64 0, .string (⟨#[]⟩ : ByteArray)]) ?_ 0 _ rfl; (with_reducible repeat (first | refine blk_drewN ?_ _ | refine blk_drew ?_ | refine blk_alloc ?_ _)); exact k2) Tryz.underlying25 rfl zE5_5) rfl ?_
 exact ⟨by first | rfl | (simp; done) | (simp [*]; done), by repeat (first | (with_reducible first | exact HB.out | apply below_alloc | apply pw_below_drewN | apply below_drew1 | refine below_set ?_ (Nat.le_succ _)) | exact HB.out)⟩
set_option maxHeartbeats 8000000 in
set_option maxRecDepth 100000 in
theorem value_read.intNo (a0 : ByteArray) (n e : Int) (t1 : Int) (w : World) (hG : Gl w) (h1 : num_ParseInt.f a0 = some (n, e)) (c1 : ¬ e = 0) :
  Calls Tryz.prog 13 #[.string a0, .agg #[.int .i64 2, .int .i64 t1]] w fun e w' => e = .returned (.tuple #[.agg #[.int .i64 0, .int .i64 0, .bool false, .int .i64 0, .string (⟨#[]⟩ : ByteArray)], .int .i64 22]) ∧ Below w.heap.size w w' := by
 have hu25 := Tryz.underlying25
 have HB := Aside0.mk (Below.refl w.heap.size w)
 have HG := Aside0.mk hG
 have A1 := Aside0.mk h1
 clear hG h1
 have c1a : (e == 0) = false := beq_eq_false_iff_ne.mpr c1
 have c1b : (e != 0) = true := bne_iff_ne.mpr c1
 clear c1
 go_enter Tryz.func13, Tryz.ntmps13
 go_wp2_with (first | (go_at_call 33; (with_reducible refine (num_ParseInt.calls a0 n e _ A1.out (Gl.of HG.out zE5_0)).mono ?_); rintro e w8 ⟨rfl, hb⟩; obtain ⟨k1, k2⟩ := value_read.after2 hb; have hcb0 : w8.cell? ⟨w.heap.size, 0, none⟩ = some (.int .i64 2) := (blk_cell k1 0).trans rfl; have hcb1 : w8.cell? ⟨w.heap.size, 1, none⟩ = some (.int .i64 t1) := (blk_cell k1 1).trans rfl; have hcz0 : w8.cell? ⟨w.heap.size + 1, 0, none⟩ = some (.int .i64 0) := (blk_cell k2 0).trans rfl; have hfz0 := blk_frozen k2 0; have hcz1 : w8.cell? ⟨w.heap.size + 1, 1, none⟩ = some (.int .i64 0) := (blk_cell k2 1).trans rfl; have hfz1 := blk_frozen k2 1; have hcz2 : w8.cell? ⟨w.heap.size + 1, 2, none⟩ = some (.bool false) := (blk_cell k2 2).trans rfl; have hfz2 := blk_frozen k2 2; have hcz3 : w8.cell? ⟨w.heap.size + 1, 3, none⟩ = some (.int .i64 0) := (blk_cell k2 3).trans rfl; have hfz3 := blk_frozen k2 3; have hcz4 : w8.cell? ⟨w.heap.size + 1, 4, none⟩ = some (.string (⟨#[]⟩ : ByteArray)) := (blk_cell k2 4).trans rfl; have hfz4 := blk_frozen k2 4; have n0_ := Aside0.mk (below_step zE5_0 hb); clear HB; have HB := n0_; clear n0_; clear hb))
 refine bodyPost_ret (results_ct rfl _ _ (w.heap.size + 1) 25 #[.int .i64 0, .int .i64 0, .bool false, .int .i64 0, .string (⟨#[]⟩ : ByteArray)] (0, 0) _ rfl zE5_1 Tryz.underlying25 rfl zE5_5) rfl ?_
 exact ⟨by first | rfl | (simp; done) | (simp [*]; done), by repeat (first | (with_reducible first | exact HB.out | apply below_alloc | apply pw_below_drewN | apply below_drew1 | refine below_set ?_ (Nat.le_succ _)) | exact HB.out)⟩
set_option maxHeartbeats 8000000 in
set_option maxRecDepth 100000 in
theorem value_read.dayOk (k : Nat) (a0 : ByteArray) (n : Int) (t1 : Int) (w : World) (hG : Gl w) (h1 : num_ParseDay.f k a0 = some (n, 0)) :
  Calls Tryz.prog 13 #[.string a0, .agg #[.int .i64 5, .int .i64 t1]] w fun e w' => e = .returned (.tuple #[.agg #[.int .i64 5, .int .i64 t1, .bool false, .int .i64 n, .string (⟨#[]⟩ : ByteArray)], .int .i64 0]) ∧ Below w.heap.size w w' := by
 have hu25 := Tryz.underlying25
 have HB := Aside0.mk (Below.refl w.heap.size w)
 have HG := Aside0.mk hG
 have A1 := Aside0.mk h1
 clear hG h1
 go_enter Tryz.func13, Tryz.ntmps13
 go_wp2_with (first | (go_at_call 35; (with_reducible refine (num_ParseDay.calls k a0 n 0 _ A1.out).mono ?_); rintro e w8 ⟨rfl, hb⟩; obtain ⟨k1, k2⟩ := value_read.after2 hb; have hcb0 : w8.cell? ⟨w.heap.size, 0, none⟩ = some (.int .i64 5) := (blk_cell k1 0).trans rfl; have hcb1 : w8.cell? ⟨w.heap.size, 1, none⟩ = some (.int .i64 t1) := (blk_cell k1 1).trans rfl; have hcz0 : w8.cell? ⟨w.heap.size + 1, 0, none⟩ = some (.int .i64 0) := (blk_cell k2 0).trans rfl; have hfz0 := blk_frozen k2 0; have hcz1 : w8.cell? ⟨w.heap.size + 1, 1, none⟩ = some (.int .i64 0) := (blk_cell k2 1).trans rfl; have hfz1 := blk_frozen k2 1; have hcz2 : w8.cell? ⟨w.heap.size + 1, 2, none⟩ = some (.bool false) := (blk_cell k2 2).trans rfl; have hfz2 := blk_frozen k2 2; have hcz3 : w8.cell? ⟨w.heap.size + 1, 3, none⟩ = some (.int .i64 0) := (blk_cell k2 3).trans rfl; have hfz3 := blk_frozen k2 3; have hcz4 : w8.cell? ⟨w.heap.size + 1, 4, none⟩ = some (.string (⟨#[]⟩ : ByteArray)) := (blk_cell k2 4).trans rfl; have hfz4 := blk_frozen k2 4; have n0_ := Aside0.mk (below_step zE5_0 hb); clear HB; have HB := n0_; clear n0_; clear hb))
 refine bodyPost_ret (results_ct rfl _ _ (w.heap.size + 1) 25 #[.int .i64 5, .int .i64 t1, .bool false, .int .i64 n, .string (⟨#[]⟩ : ByteArray)] (0, 0) _ rfl (by (with_reducible repeat (first | refine blk_drewN ?_ _ | refine blk_drew ?_ | refine blk_alloc ?_ _)); refine blk_put (cs := #[.int .i64 5, .int .i64 t1, .bool false, .int .i64 n, .string (⟨#[]⟩ : ByteArray)]) ?_ 4 _ rfl; (with_reducible repeat (first | refine blk_drewN ?_ _ | refine blk_drew ?_ | refine blk_alloc ?_ _)); refine blk_put (cs := #[.int .i64 5, .int .i64 t1, .bool false, .int .i64 0, .string (⟨#[]⟩ : ByteArray)]) ?_ 3 _ rfl; (with_reducible repeat (first | refine blk_drewN ?_ _ | refine blk_drew ?_ | refine blk_alloc ?_ _)); refine blk_put (cs := #[.int .i64 5, .int .i64 t1, .bool false, .int .i64 0, .string (⟨#[]⟩ : ByteArray)]) ?_ 2 _ rfl; (with_reducible repeat (first | refine blk_drewN ?_ _ | refine blk_drew ?_ | refine blk_alloc ?_ _)); refine blk_put (cs := #[.int .i64 5, .int .i64 0, .bool false, .int .i64 0, .string (⟨#[]⟩ : ByteArray)]) ?_ 1 _ rfl; (with_reducible repeat (first | refine blk_drewN ?_ _ | refine blk_drew ?_ | refine blk_alloc ?_ _)); refine blk_put (cs := #[.int .i64 0, .int .i64 0, .bool false, .int .i64 0, .string (⟨#[]⟩ : ByteArray)]) ?_ 0 _ rfl; (with_reducible repeat (first | refine blk_drewN ?_ _ | refine blk_drew ?_ | refine blk_alloc ?_ _)); exact k2) Tryz.underlying25 rfl zE5_5) rfl ?_
 exact ⟨by first | rfl | (simp; done) | (simp [*]; done), by repeat (first | (with_reducible first | exact HB.out | apply below_alloc | apply pw_below_drewN | apply below_drew1 | refine below_set ?_ (Nat.le_succ _)) | exact HB.out)⟩
set_option maxHeartbeats 8000000 in
set_option maxRecDepth 100000 in
theorem value_read.dayNo (k : Nat) (a0 : ByteArray) (n e : Int) (t1 : Int) (w : World) (hG : Gl w) (h1 : num_ParseDay.f k a0 = some (n, e)) (c1 : ¬ e = 0) :
  Calls Tryz.prog 13 #[.string a0, .agg #[.int .i64 5, .int .i64 t1]] w fun e w' => e = .returned (.tuple #[.agg #[.int .i64 0, .int .i64 0, .bool false, .int .i64 0, .string (⟨#[]⟩ : ByteArray)], .int .i64 22]) ∧ Below w.heap.size w w' := by
 have hu25 := Tryz.underlying25
 have HB := Aside0.mk (Below.refl w.heap.size w)
 have HG := Aside0.mk hG
 have A1 := Aside0.mk h1
 clear hG h1
 have c1a : (e == 0) = false := beq_eq_false_iff_ne.mpr c1
 have c1b : (e != 0) = true := bne_iff_ne.mpr c1
 clear c1
 go_enter Tryz.func13, Tryz.ntmps13
 go_wp2_with (first | (go_at_call 35; (with_reducible refine (num_ParseDay.calls k a0 n e _ A1.out).mono ?_); rintro e w8 ⟨rfl, hb⟩; obtain ⟨k1, k2⟩ := value_read.after2 hb; have hcb0 : w8.cell? ⟨w.heap.size, 0, none⟩ = some (.int .i64 5) := (blk_cell k1 0).trans rfl; have hcb1 : w8.cell? ⟨w.heap.size, 1, none⟩ = some (.int .i64 t1) := (blk_cell k1 1).trans rfl; have hcz0 : w8.cell? ⟨w.heap.size + 1, 0, none⟩ = some (.int .i64 0) := (blk_cell k2 0).trans rfl; have hfz0 := blk_frozen k2 0; have hcz1 : w8.cell? ⟨w.heap.size + 1, 1, none⟩ = some (.int .i64 0) := (blk_cell k2 1).trans rfl; have hfz1 := blk_frozen k2 1; have hcz2 : w8.cell? ⟨w.heap.size + 1, 2, none⟩ = some (.bool false) := (blk_cell k2 2).trans rfl; have hfz2 := blk_frozen k2 2; have hcz3 : w8.cell? ⟨w.heap.size + 1, 3, none⟩ = some (.int .i64 0) := (blk_cell k2 3).trans rfl; have hfz3 := blk_frozen k2 3; have hcz4 : w8.cell? ⟨w.heap.size + 1, 4, none⟩ = some (.string (⟨#[]⟩ : ByteArray)) := (blk_cell k2 4).trans rfl; have hfz4 := blk_frozen k2 4; have n0_ := Aside0.mk (below_step zE5_0 hb); clear HB; have HB := n0_; clear n0_; clear hb))
 refine bodyPost_ret (results_ct rfl _ _ (w.heap.size + 1) 25 #[.int .i64 0, .int .i64 0, .bool false, .int .i64 0, .string (⟨#[]⟩ : ByteArray)] (0, 0) _ rfl zE5_1 Tryz.underlying25 rfl zE5_5) rfl ?_
 exact ⟨by first | rfl | (simp; done) | (simp [*]; done), by repeat (first | (with_reducible first | exact HB.out | apply below_alloc | apply pw_below_drewN | apply below_drew1 | refine below_set ?_ (Nat.le_succ _)) | exact HB.out)⟩
set_option maxHeartbeats 8000000 in
set_option maxRecDepth 100000 in
theorem value_read.decNo (a0 : ByteArray) (n s e : Int) (t1 : Int) (w : World) (hG : Gl w) (h1 : num_ParseDec.f a0 = some (n, s, e)) (c1 : ¬ e = 0) :
  Calls Tryz.prog 13 #[.string a0, .agg #[.int .i64 3, .int .i64 t1]] w fun e w' => e = .returned (.tuple #[.agg #[.int .i64 0, .int .i64 0, .bool false, .int .i64 0, .string (⟨#[]⟩ : ByteArray)], .int .i64 22]) ∧ Below w.heap.size w w' := by
 have hu25 := Tryz.underlying25
 have HB := Aside0.mk (Below.refl w.heap.size w)
 have HG := Aside0.mk hG
 have A1 := Aside0.mk h1
 clear hG h1
 have c1a : (e == 0) = false := beq_eq_false_iff_ne.mpr c1
 have c1b : (e != 0) = true := bne_iff_ne.mpr c1
 clear c1
 go_enter Tryz.func13, Tryz.ntmps13
 go_wp2_with (first | (go_at_call 34; (with_reducible refine (num_ParseDec.calls a0 n s e _ A1.out (Gl.of HG.out zE5_0)).mono ?_); rintro e w8 ⟨rfl, hb⟩; obtain ⟨k1, k2⟩ := value_read.after2 hb; have hcb0 : w8.cell? ⟨w.heap.size, 0, none⟩ = some (.int .i64 3) := (blk_cell k1 0).trans rfl; have hcb1 : w8.cell? ⟨w.heap.size, 1, none⟩ = some (.int .i64 t1) := (blk_cell k1 1).trans rfl; have hcz0 : w8.cell? ⟨w.heap.size + 1, 0, none⟩ = some (.int .i64 0) := (blk_cell k2 0).trans rfl; have hfz0 := blk_frozen k2 0; have hcz1 : w8.cell? ⟨w.heap.size + 1, 1, none⟩ = some (.int .i64 0) := (blk_cell k2 1).trans rfl; have hfz1 := blk_frozen k2 1; have hcz2 : w8.cell? ⟨w.heap.size + 1, 2, none⟩ = some (.bool false) := (blk_cell k2 2).trans rfl; have hfz2 := blk_frozen k2 2; have hcz3 : w8.cell? ⟨w.heap.size + 1, 3, none⟩ = some (.int .i64 0) := (blk_cell k2 3).trans rfl; have hfz3 := blk_frozen k2 3; have hcz4 : w8.cell? ⟨w.heap.size + 1, 4, none⟩ = some (.string (⟨#[]⟩ : ByteArray)) := (blk_cell k2 4).trans rfl; have hfz4 := blk_frozen k2 4; have n0_ := Aside0.mk (below_step zE5_0 hb); clear HB; have HB := n0_; clear n0_; clear hb))
 refine bodyPost_ret (results_ct rfl _ _ (w.heap.size + 1) 25 #[.int .i64 0, .int .i64 0, .bool false, .int .i64 0, .string (⟨#[]⟩ : ByteArray)] (0, 0) _ rfl zE5_1 Tryz.underlying25 rfl zE5_5) rfl ?_
 exact ⟨by first | rfl | (simp; done) | (simp [*]; done), by repeat (first | (with_reducible first | exact HB.out | apply below_alloc | apply pw_below_drewN | apply below_drew1 | refine below_set ?_ (Nat.le_succ _)) | exact HB.out)⟩
set_option maxHeartbeats 8000000 in
set_option maxRecDepth 100000 in
theorem value_read.decOk (k : Nat) (a0 : ByteArray) (n s m : Int) (t1 : Int) (w : World) (hG : Gl w) (h1 : num_ParseDec.f a0 = some (n, s, 0)) (h2 : num_Scale.f k n s t1 = some (m, 0)) :
  Calls Tryz.prog 13 #[.string a0, .agg #[.int .i64 3, .int .i64 t1]] w fun e w' => e = .returned (.tuple #[.agg #[.int .i64 3, .int .i64 t1, .bool false, .int .i64 m, .string (⟨#[]⟩ : ByteArray)], .int .i64 0]) ∧ Below w.heap.size w w' := by
 have hu25 := Tryz.underlying25
 have HB := Aside0.mk (Below.refl w.heap.size w)
 have HG := Aside0.mk hG
 have A1 := Aside0.mk h1
 have A2 := Aside0.mk h2
 clear hG h1 h2
 go_enter Tryz.func13, Tryz.ntmps13
 go_wp2_with (first | (go_at_call 34; (with_reducible refine (num_ParseDec.calls a0 n s 0 _ A1.out (Gl.of HG.out zE5_0)).mono ?_); rintro e w8 ⟨rfl, hb⟩; obtain ⟨k1, k2⟩ := value_read.after2 hb; have hcb0 : w8.cell? ⟨w.heap.size, 0, none⟩ = some (.int .i64 3) := (blk_cell k1 0).trans rfl; have hcb1 : w8.cell? ⟨w.heap.size, 1, none⟩ = some (.int .i64 t1) := (blk_cell k1 1).trans rfl; have hcz0 : w8.cell? ⟨w.heap.size + 1, 0, none⟩ = some (.int .i64 0) := (blk_cell k2 0).trans rfl; have hfz0 := blk_frozen k2 0; have hcz1 : w8.cell? ⟨w.heap.size + 1, 1, none⟩ = some (.int .i64 0) := (blk_cell k2 1).trans rfl; have hfz1 := blk_frozen k2 1; have hcz2 : w8.cell? ⟨w.heap.size + 1, 2, none⟩ = some (.bool false) := (blk_cell k2 2).trans rfl; have hfz2 := blk_frozen k2 2; have hcz3 : w8.cell? ⟨w.heap.size + 1, 3, none⟩ = some (.int .i64 0) := (blk_cell k2 3).trans rfl; have hfz3 := blk_frozen k2 3; have hcz4 : w8.cell? ⟨w.heap.size + 1, 4, none⟩ = some (.string (⟨#[]⟩ : ByteArray)) := (blk_cell k2 4).trans rfl; have hfz4 := blk_frozen k2 4; have n0_ := Aside0.mk (below_step zE5_0 hb); clear HB; have HB := n0_; clear n0_; clear hb) | (go_at_call 15; (with_reducible refine (num_Scale.calls k n s t1 m 0 _ A2.out).mono ?_); rintro e w9 ⟨rfl, hb⟩; replace k1 := blk_below k1 hb; replace k2 := blk_below k2 hb; have hcb0 : w9.cell? ⟨w.heap.size, 0, none⟩ = some (.int .i64 3) := (blk_cell k1 0).trans rfl; have hcb1 : w9.cell? ⟨w.heap.size, 1, none⟩ = some (.int .i64 t1) := (blk_cell k1 1).trans rfl; have hcz0 : w9.cell? ⟨w.heap.size + 1, 0, none⟩ = some (.int .i64 0) := (blk_cell k2 0).trans rfl; have hfz0 := blk_frozen k2 0; have hcz1 : w9.cell? ⟨w.heap.size + 1, 1, none⟩ = some (.int .i64 0) := (blk_cell k2 1).trans rfl; have hfz1 := blk_frozen k2 1; have hcz2 : w9.cell? ⟨w.heap.size + 1, 2, none⟩ = some (.bool false) := (blk_cell k2 2).trans rfl; have hfz2 := blk_frozen k2 2; have hcz3 : w9.cell? ⟨w.heap.size + 1, 3, none⟩ = some (.int .i64 0) := (blk_cell k2 3).trans rfl; have hfz3 := blk_frozen k2 3; have hcz4 : w9.cell? ⟨w.heap.size + 1, 4, none⟩ = some (.string (⟨#[]⟩ : ByteArray)) := (blk_cell k2 4).trans rfl; have hfz4 := blk_frozen k2 4; have n0_ := Aside0.mk (below_step zE5_0 hb); clear HB; have HB := n0_; clear n0_; clear hb))
 refine bodyPost_ret (results_ct rfl _ _ (w.heap.size + 1) 25 #[.int .i64 3, .int .i64 t1, .bool false, .int .i64 m, .string (⟨#[]⟩ : ByteArray)] (0, 0) _ rfl (by (with_reducible repeat (first | refine blk_drewN ?_ _ | refine blk_drew ?_ | refine blk_alloc ?_ _)); refine blk_put (cs := #[.int .i64 3, .int .i64 t1, .bool false, .int .i64 m, .string (⟨#[]⟩ : ByteArray)]) ?_ 4 _ rfl; (with_reducible repeat (first | refine blk_drewN ?_ _ | refine blk_drew ?_ | refine blk_alloc ?_ _)); refine blk_put (cs := #[.int .i64 3, .int .i64 t1, .bool false, .int .i64 0, .string (⟨#[]⟩ : ByteArray)]) ?_ 3 _ rfl; (with_reducible repeat (first | refine blk_drewN ?_ _ | refine blk_drew ?_ | refine blk_alloc ?_ _)); refine blk_put (cs := #[.int .i64 3, .int .i64 t1, .bool false, .int .i64 0, .string (⟨#[]⟩ : ByteArray)]) ?_ 2 _ rfl; (with_reducible repeat (first | refine blk_drewN ?_ _ | refine blk_drew ?_ | refine blk_alloc ?_ _)); refine blk_put (cs := #[.int .i64 3, .int .i64 0, .bool false, .int .i64 0, .string (⟨#[]⟩ : ByteArray)]) ?_ 1 _ rfl; (with_reducible repeat (first | refine blk_drewN ?_ _ | refine blk_drew ?_ | refine blk_alloc ?_ _)); refine blk_put (cs := #[.int .i64 0, .int .i64 0, .bool false, .int .i64 0, .string (⟨#[]⟩ : ByteArray)]) ?_ 0 _ rfl; (with_reducible repeat (first | refine blk_drewN ?_ _ | refine blk_drew ?_ | refine blk_alloc ?_ _)); exact k2) Tryz.underlying25 rfl zE5_5) rfl ?_
 exact ⟨by first | rfl | (simp; done) | (simp [*]; done), by repeat (first | (with_reducible first | exact HB.out | apply below_alloc | apply pw_below_drewN | apply below_drew1 | refine below_set ?_ (Nat.le_succ _)) | exact HB.out)⟩
set_option maxHeartbeats 8000000 in
set_option maxRecDepth 100000 in
theorem value_read.decFar (k : Nat) (a0 : ByteArray) (n s m e : Int) (t1 : Int) (w : World) (hG : Gl w) (h1 : num_ParseDec.f a0 = some (n, s, 0)) (h2 : num_Scale.f k n s t1 = some (m, e)) (c1 : ¬ e = 0) :
  Calls Tryz.prog 13 #[.string a0, .agg #[.int .i64 3, .int .i64 t1]] w fun e w' => e = .returned (.tuple #[.agg #[.int .i64 0, .int .i64 0, .bool false, .int .i64 0, .string (⟨#[]⟩ : ByteArray)], .int .i64 22]) ∧ Below w.heap.size w w' := by
 have hu25 := Tryz.underlying25
 have HB := Aside0.mk (Below.refl w.heap.size w)
 have HG := Aside0.mk hG
 have A1 := Aside0.mk h1
 have A2 := Aside0.mk h2
 clear hG h1 h2
 have c1a : (e == 0) = false := beq_eq_false_iff_ne.mpr c1
 have c1b : (e != 0) = true := bne_iff_ne.mpr c1
 clear c1
 go_enter Tryz.func13, Tryz.ntmps13
 go_wp2_with (first | (go_at_call 34; (with_reducible refine (num_ParseDec.calls a0 n s 0 _ A1.out (Gl.of HG.out zE5_0)).mono ?_); rintro e w8 ⟨rfl, hb⟩; obtain ⟨k1, k2⟩ := value_read.after2 hb; have hcb0 : w8.cell? ⟨w.heap.size, 0, none⟩ = some (.int .i64 3) := (blk_cell k1 0).trans rfl; have hcb1 : w8.cell? ⟨w.heap.size, 1, none⟩ = some (.int .i64 t1) := (blk_cell k1 1).trans rfl; have hcz0 : w8.cell? ⟨w.heap.size + 1, 0, none⟩ = some (.int .i64 0) := (blk_cell k2 0).trans rfl; have hfz0 := blk_frozen k2 0; have hcz1 : w8.cell? ⟨w.heap.size + 1, 1, none⟩ = some (.int .i64 0) := (blk_cell k2 1).trans rfl; have hfz1 := blk_frozen k2 1; have hcz2 : w8.cell? ⟨w.heap.size + 1, 2, none⟩ = some (.bool false) := (blk_cell k2 2).trans rfl; have hfz2 := blk_frozen k2 2; have hcz3 : w8.cell? ⟨w.heap.size + 1, 3, none⟩ = some (.int .i64 0) := (blk_cell k2 3).trans rfl; have hfz3 := blk_frozen k2 3; have hcz4 : w8.cell? ⟨w.heap.size + 1, 4, none⟩ = some (.string (⟨#[]⟩ : ByteArray)) := (blk_cell k2 4).trans rfl; have hfz4 := blk_frozen k2 4; have n0_ := Aside0.mk (below_step zE5_0 hb); clear HB; have HB := n0_; clear n0_; clear hb) | (go_at_call 15; (with_reducible refine (num_Scale.calls k n s t1 m e _ A2.out).mono ?_); rintro e w9 ⟨rfl, hb⟩; replace k1 := blk_below k1 hb; replace k2 := blk_below k2 hb; have hcb0 : w9.cell? ⟨w.heap.size, 0, none⟩ = some (.int .i64 3) := (blk_cell k1 0).trans rfl; have hcb1 : w9.cell? ⟨w.heap.size, 1, none⟩ = some (.int .i64 t1) := (blk_cell k1 1).trans rfl; have hcz0 : w9.cell? ⟨w.heap.size + 1, 0, none⟩ = some (.int .i64 0) := (blk_cell k2 0).trans rfl; have hfz0 := blk_frozen k2 0; have hcz1 : w9.cell? ⟨w.heap.size + 1, 1, none⟩ = some (.int .i64 0) := (blk_cell k2 1).trans rfl; have hfz1 := blk_frozen k2 1; have hcz2 : w9.cell? ⟨w.heap.size + 1, 2, none⟩ = some (.bool false) := (blk_cell k2 2).trans rfl; have hfz2 := blk_frozen k2 2; have hcz3 : w9.cell? ⟨w.heap.size + 1, 3, none⟩ = some (.int .i64 0) := (blk_cell k2 3).trans rfl; have hfz3 := blk_frozen k2 3; have hcz4 : w9.cell? ⟨w.heap.size + 1, 4, none⟩ = some (.string (⟨#[]⟩ : ByteArray)) := (blk_cell k2 4).trans rfl; have hfz4 := blk_frozen k2 4; have n0_ := Aside0.mk (below_step zE5_0 hb); clear HB; have HB := n0_; clear n0_; clear hb))
 refine bodyPost_ret (results_ct rfl _ _ (w.heap.size + 1) 25 #[.int .i64 0, .int .i64 0, .bool false, .int .i64 0, .string (⟨#[]⟩ : ByteArray)] (0, 0) _ rfl zE5_1 Tryz.underlying25 rfl zE5_5) rfl ?_
 exact ⟨by first | rfl | (simp; done) | (simp [*]; done), by repeat (first | (with_reducible first | exact HB.out | apply below_alloc | apply pw_below_drewN | apply below_drew1 | refine below_set ?_ (Nat.le_succ _)) | exact HB.out)⟩
set_option maxHeartbeats 8000000 in
set_option maxRecDepth 100000 in
theorem value_read.true_ (a0 : ByteArray) (t1 : Int) (w : World) (hG : Gl w) (h1 : value_capitals.f a0 = some (⟨#[84, 82, 85, 69]⟩ : ByteArray)) :
  Calls Tryz.prog 13 #[.string a0, .agg #[.int .i64 1, .int .i64 t1]] w fun e w' => e = .returned (.tuple #[.agg #[.int .i64 1, .int .i64 t1, .bool false, .int .i64 1, .string (⟨#[]⟩ : ByteArray)], .int .i64 0]) ∧ Below w.heap.size w w' := by
 have hu25 := Tryz.underlying25
 have HB := Aside0.mk (Below.refl w.heap.size w)
 have HG := Aside0.mk hG
 have A1 := Aside0.mk h1
 clear hG h1
 have hmm := @run_makeMap Tryz.prog
 have hm1 := fun (w : World) (o o2 : Obj) => value_read.upd1 ((w.alloc o).alloc o2)
 have hm2 := fun (w : World) (o o2 : Obj) => value_read.upd2 ((w.alloc o).alloc o2)
 simp only [World.size_alloc] at hm1 hm2
 go_enter Tryz.func13, Tryz.ntmps13
 go_wp2_with (first | (go_at_call 32; (with_reducible refine (value_capitals.calls a0 (⟨#[84, 82, 85, 69]⟩ : ByteArray) _ A1.out (Gl.of HG.out zE5_0)).mono ?_); rintro e w8 ⟨rfl, hb⟩; obtain ⟨k1, k2, k3⟩ := value_read.after3 hb; have hcb0 : w8.cell? ⟨w.heap.size, 0, none⟩ = some (.int .i64 1) := (blk_cell k1 0).trans rfl; have hcb1 : w8.cell? ⟨w.heap.size, 1, none⟩ = some (.int .i64 t1) := (blk_cell k1 1).trans rfl; have hcz0 : w8.cell? ⟨w.heap.size + 1, 0, none⟩ = some (.int .i64 0) := (blk_cell k2 0).trans rfl; have hfz0 := blk_frozen k2 0; have hcz1 : w8.cell? ⟨w.heap.size + 1, 1, none⟩ = some (.int .i64 0) := (blk_cell k2 1).trans rfl; have hfz1 := blk_frozen k2 1; have hcz2 : w8.cell? ⟨w.heap.size + 1, 2, none⟩ = some (.bool false) := (blk_cell k2 2).trans rfl; have hfz2 := blk_frozen k2 2; have hcz3 : w8.cell? ⟨w.heap.size + 1, 3, none⟩ = some (.int .i64 0) := (blk_cell k2 3).trans rfl; have hfz3 := blk_frozen k2 3; have hcz4 : w8.cell? ⟨w.heap.size + 1, 4, none⟩ = some (.string (⟨#[]⟩ : ByteArray)) := (blk_cell k2 4).trans rfl; have hfz4 := blk_frozen k2 4; have hlk := value_read.lookT k3; have n0_ := Aside0.mk (below_step zE5_0 hb); clear HB; have HB := n0_; clear n0_; clear hb))
 refine bodyPost_ret (results_ct rfl _ _ (w.heap.size + 1) 25 #[.int .i64 1, .int .i64 t1, .bool false, .int .i64 1, .string (⟨#[]⟩ : ByteArray)] (0, 0) _ rfl (by (with_reducible repeat (first | refine blk_drewN ?_ _ | refine blk_drew ?_ | refine blk_alloc ?_ _)); refine blk_put (cs := #[.int .i64 1, .int .i64 t1, .bool false, .int .i64 1, .string (⟨#[]⟩ : ByteArray)]) ?_ 4 _ rfl; (with_reducible repeat (first | refine blk_drewN ?_ _ | refine blk_drew ?_ | refine blk_alloc ?_ _)); refine blk_put (cs := #[.int .i64 1, .int .i64 t1, .bool false, .int .i64 0, .string (⟨#[]⟩ : ByteArray)]) ?_ 3 _ rfl; (with_reducible repeat (first | refine blk_drewN ?_ _ | refine blk_drew ?_ | refine blk_alloc ?_ _)); refine blk_put (cs := #[.int .i64 1, .int .i64 t1, .bool false, .int .i64 0, .string (⟨#[]⟩ : ByteArray)]) ?_ 2 _ rfl; (with_reducible repeat (first | refine blk_drewN ?_ _ | refine blk_drew ?_ | refine blk_alloc ?_ _)); refine blk_put (cs := #[.int .i64 1, .int .i64 0, .bool false, .int .i64 0, .string (⟨#[]⟩ : ByteArray)]) ?_ 1 _ rfl; (with_reducible repeat (first | refine blk_drewN ?_ _ | refine blk_drew ?_ | refine blk_alloc ?_ _)); refine blk_put (cs := #[.int .i64 0, .int .i64 0, .bool false, .int .i64 0, .string (⟨#[]⟩ : ByteArray)]) ?_ 0 _ rfl; (with_reducible repeat (first | refine blk_drewN ?_ _ | refine blk_drew ?_ | refine blk_alloc ?_ _)); exact k2) Tryz.underlying25 rfl zE5_5) rfl ?_
 exact ⟨by first | rfl | (simp; done) | (simp [*]; done), by repeat (first | (with_reducible first | exact HB.out | apply below_alloc | apply pw_below_drewN | apply below_drew1 | refine below_set ?_ (Nat.le_succ _)) | exact HB.out)⟩
set_option maxHeartbeats 8000000 in
set_option maxRecDepth 100000 in
theorem value_read.false_ (a0 : ByteArray) (t1 : Int) (w : World) (hG : Gl w) (h1 : value_capitals.f a0 = some (⟨#[70, 65, 76, 83, 69]⟩ : ByteArray)) :
  Calls Tryz.prog 13 #[.string a0, .agg #[.int .i64 1, .int .i64 t1]] w fun e w' => e = .returned (.tuple #[.agg #[.int .i64 1, .int .i64 t1, .bool false, .int .i64 0, .string (⟨#[]⟩ : ByteArray)], .int .i64 0]) ∧ Below w.heap.size w w' := by
 have hu25 := Tryz.underlying25
 have HB := Aside0.mk (Below.refl w.heap.size w)
 have HG := Aside0.mk hG
 have A1 := Aside0.mk h1
 clear hG h1
 have hmm := @run_makeMap Tryz.prog
 have hm1 := fun (w : World) (o o2 : Obj) => value_read.upd1 ((w.alloc o).alloc o2)
 have hm2 := fun (w : World) (o o2 : Obj) => value_read.upd2 ((w.alloc o).alloc o2)
 simp only [World.size_alloc] at hm1 hm2
 go_enter Tryz.func13, Tryz.ntmps13
 go_wp2_with (first | (go_at_call 32; (with_reducible refine (value_capitals.calls a0 (⟨#[70, 65, 76, 83, 69]⟩ : ByteArray) _ A1.out (Gl.of HG.out zE5_0)).mono ?_); rintro e w8 ⟨rfl, hb⟩; obtain ⟨k1, k2, k3⟩ := value_read.after3 hb; have hcb0 : w8.cell? ⟨w.heap.size, 0, none⟩ = some (.int .i64 1) := (blk_cell k1 0).trans rfl; have hcb1 : w8.cell? ⟨w.heap.size, 1, none⟩ = some (.int .i64 t1) := (blk_cell k1 1).trans rfl; have hcz0 : w8.cell? ⟨w.heap.size + 1, 0, none⟩ = some (.int .i64 0) := (blk_cell k2 0).trans rfl; have hfz0 := blk_frozen k2 0; have hcz1 : w8.cell? ⟨w.heap.size + 1, 1, none⟩ = some (.int .i64 0) := (blk_cell k2 1).trans rfl; have hfz1 := blk_frozen k2 1; have hcz2 : w8.cell? ⟨w.heap.size + 1, 2, none⟩ = some (.bool false) := (blk_cell k2 2).trans rfl; have hfz2 := blk_frozen k2 2; have hcz3 : w8.cell? ⟨w.heap.size + 1, 3, none⟩ = some (.int .i64 0) := (blk_cell k2 3).trans rfl; have hfz3 := blk_frozen k2 3; have hcz4 : w8.cell? ⟨w.heap.size + 1, 4, none⟩ = some (.string (⟨#[]⟩ : ByteArray)) := (blk_cell k2 4).trans rfl; have hfz4 := blk_frozen k2 4; have hlk := value_read.lookF k3; have n0_ := Aside0.mk (below_step zE5_0 hb); clear HB; have HB := n0_; clear n0_; clear hb))
 refine bodyPost_ret (results_ct rfl _ _ (w.heap.size + 1) 25 #[.int .i64 1, .int .i64 t1, .bool false, .int .i64 0, .string (⟨#[]⟩ : ByteArray)] (0, 0) _ rfl (by (with_reducible repeat (first | refine blk_drewN ?_ _ | refine blk_drew ?_ | refine blk_alloc ?_ _)); refine blk_put (cs := #[.int .i64 1, .int .i64 t1, .bool false, .int .i64 0, .string (⟨#[]⟩ : ByteArray)]) ?_ 4 _ rfl; (with_reducible repeat (first | refine blk_drewN ?_ _ | refine blk_drew ?_ | refine blk_alloc ?_ _)); refine blk_put (cs := #[.int .i64 1, .int .i64 t1, .bool false, .int .i64 0, .string (⟨#[]⟩ : ByteArray)]) ?_ 3 _ rfl; (with_reducible repeat (first | refine blk_drewN ?_ _ | refine blk_drew ?_ | refine blk_alloc ?_ _)); refine blk_put (cs := #[.int .i64 1, .int .i64 t1, .bool false, .int .i64 0, .string (⟨#[]⟩ : ByteArray)]) ?_ 2 _ rfl; (with_reducible repeat (first | refine blk_drewN ?_ _ | refine blk_drew ?_ | refine blk_alloc ?_ _)); refine blk_put (cs := #[.int .i64 1, .int .i64 0, .bool false, .int .i64 0, .string (⟨#[]⟩ : ByteArray)]) ?_ 1 _ rfl; (with_reducible repeat (first | refine blk_drewN ?_ _ | refine blk_drew ?_ | refine blk_alloc ?_ _)); refine blk_put (cs := #[.int .i64 0, .int .i64 0, .bool false, .int .i64 0, .string (⟨#[]⟩ : ByteArray)]) ?_ 0 _ rfl; (with_reducible repeat (first | refine blk_drewN ?_ _ | refine blk_drew ?_ | refine blk_alloc ?_ _)); exact k2) Tryz.underlying25 rfl zE5_5) rfl ?_
 exact ⟨by first | rfl | (simp; done) | (simp [*]; done), by repeat (first | (with_reducible first | exact HB.out | apply below_alloc | apply pw_below_drewN | apply below_drew1 | refine below_set ?_ (Nat.le_succ _)) | exact HB.out)⟩
set_option maxHeartbeats 8000000 in
set_option maxRecDepth 100000 in
theorem value_read.none_ (a0 c : ByteArray) (t1 : Int) (w : World) (hG : Gl w) (h1 : value_capitals.f a0 = some c) (h2 : ¬ c = (⟨#[84, 82, 85, 69]⟩ : ByteArray)) (h3 : ¬ c = (⟨#[70, 65, 76, 83, 69]⟩ : ByteArray)) :
  Calls Tryz.prog 13 #[.string a0, .agg #[.int .i64 1, .int .i64 t1]] w fun e w' => e = .returned (.tuple #[.agg #[.int .i64 0, .int .i64 0, .bool false, .int .i64 0, .string (⟨#[]⟩ : ByteArray)], .int .i64 22]) ∧ Below w.heap.size w w' := by
 have hu25 := Tryz.underlying25
 have HB := Aside0.mk (Below.refl w.heap.size w)
 have HG := Aside0.mk hG
 have A1 := Aside0.mk h1
 have A2 := Aside0.mk h2
 have A3 := Aside0.mk h3
 clear hG h1 h2 h3
 have hmm := @run_makeMap Tryz.prog
 have hm1 := fun (w : World) (o o2 : Obj) => value_read.upd1 ((w.alloc o).alloc o2)
 have hm2 := fun (w : World) (o o2 : Obj) => value_read.upd2 ((w.alloc o).alloc o2)
 simp only [World.size_alloc] at hm1 hm2
 go_enter Tryz.func13, Tryz.ntmps13
 go_wp2_with (first | (go_at_call 32; (with_reducible refine (value_capitals.calls a0 c _ A1.out (Gl.of HG.out zE5_0)).mono ?_); rintro e w8 ⟨rfl, hb⟩; obtain ⟨k1, k2, k3⟩ := value_read.after3 hb; have hcb0 : w8.cell? ⟨w.heap.size, 0, none⟩ = some (.int .i64 1) := (blk_cell k1 0).trans rfl; have hcb1 : w8.cell? ⟨w.heap.size, 1, none⟩ = some (.int .i64 t1) := (blk_cell k1 1).trans rfl; have hcz0 : w8.cell? ⟨w.heap.size + 1, 0, none⟩ = some (.int .i64 0) := (blk_cell k2 0).trans rfl; have hfz0 := blk_frozen k2 0; have hcz1 : w8.cell? ⟨w.heap.size + 1, 1, none⟩ = some (.int .i64 0) := (blk_cell k2 1).trans rfl; have hfz1 := blk_frozen k2 1; have hcz2 : w8.cell? ⟨w.heap.size + 1, 2, none⟩ = some (.bool false) := (blk_cell k2 2).trans rfl; have hfz2 := blk_frozen k2 2; have hcz3 : w8.cell? ⟨w.heap.size + 1, 3, none⟩ = some (.int .i64 0) := (blk_cell k2 3).trans rfl; have hfz3 := blk_frozen k2 3; have hcz4 : w8.cell? ⟨w.heap.size + 1, 4, none⟩ = some (.string (⟨#[]⟩ : ByteArray)) := (blk_cell k2 4).trans rfl; have hfz4 := blk_frozen k2 4; have hlk := value_read.lookN k3 c A2.out A3.out; have n0_ := Aside0.mk (below_step zE5_0 hb); clear HB; have HB := n0_; clear n0_; clear hb))
 refine bodyPost_ret (results_ct rfl _ _ (w.heap.size + 1) 25 #[.int .i64 0, .int .i64 0, .bool false, .int .i64 0, .string (⟨#[]⟩ : ByteArray)] (0, 0) _ rfl zE5_1 Tryz.underlying25 rfl zE5_5) rfl ?_
 exact ⟨by first | rfl | (simp; done) | (simp [*]; done), by repeat (first | (with_reducible first | exact HB.out | apply below_alloc | apply pw_below_drewN | apply below_drew1 | refine below_set ?_ (Nat.le_succ _)) | exact HB.out)⟩
set_option maxHeartbeats 8000000 in
set_option maxRecDepth 100000 in
theorem value_read.rest (a0 : ByteArray) (t0 : Int) (t1 : Int) (w : World) (hG : Gl w) (c1 : ¬ t0 = 1) (c2 : ¬ t0 = 2) (c3 : ¬ t0 = 3) (c5 : ¬ t0 = 5) :
  Calls Tryz.prog 13 #[.string a0, .agg #[.int .i64 t0, .int .i64 t1]] w fun e w' => e = .returned (.tuple #[.agg #[.int .i64 t0, .int .i64 t1, .bool false, .int .i64 0, .string (⟨#[]⟩ : ByteArray)], .int .i64 0]) ∧ Below w.heap.size w w' := by
 have hu25 := Tryz.underlying25
 have HB := Aside0.mk (Below.refl w.heap.size w)
 have HG := Aside0.mk hG
 clear hG 
 have c1b : (t0 == 1) = false := beq_eq_false_iff_ne.mpr c1
 have c2b : (t0 == 2) = false := beq_eq_false_iff_ne.mpr c2
 have c3b : (t0 == 3) = false := beq_eq_false_iff_ne.mpr c3
 have c5b : (t0 == 5) = false := beq_eq_false_iff_ne.mpr c5
 clear c1 c2 c3 c5
 obtain ⟨k1, k2⟩ := value_read.after2 (w := w) (o1 := #[.int .i64 t0, .int .i64 t1]) (t := 23) (Below.refl _ _)
 have hcb0 : ((w.alloc (.cells #[.int .i64 t0, .int .i64 t1] 23)).alloc (.cells #[.int .i64 0, .int .i64 0, .bool false, .int .i64 0, .string (⟨#[]⟩ : ByteArray)] 25)).cell? ⟨w.heap.size, 0, none⟩ = some (.int .i64 t0) := (blk_cell k1 0).trans rfl; have hcb1 : ((w.alloc (.cells #[.int .i64 t0, .int .i64 t1] 23)).alloc (.cells #[.int .i64 0, .int .i64 0, .bool false, .int .i64 0, .string (⟨#[]⟩ : ByteArray)] 25)).cell? ⟨w.heap.size, 1, none⟩ = some (.int .i64 t1) := (blk_cell k1 1).trans rfl; have hcz0 : ((w.alloc (.cells #[.int .i64 t0, .int .i64 t1] 23)).alloc (.cells #[.int .i64 0, .int .i64 0, .bool false, .int .i64 0, .string (⟨#[]⟩ : ByteArray)] 25)).cell? ⟨w.heap.size + 1, 0, none⟩ = some (.int .i64 0) := (blk_cell k2 0).trans rfl; have hfz0 := blk_frozen k2 0; have hcz1 : ((w.alloc (.cells #[.int .i64 t0, .int .i64 t1] 23)).alloc (.cells #[.int .i64 0, .int .i64 0, .bool false, .int .i64 0, .string (⟨#[]⟩ : ByteArray)] 25)).cell? ⟨w.heap.size + 1, 1, none⟩ = some (.int .i64 0) := (blk_cell k2 1).trans rfl; have hfz1 := blk_frozen k2 1; have hcz2 : ((w.alloc (.cells #[.int .i64 t0, .int .i64 t1] 23)).alloc (.cells #[.int .i64 0, .int .i64 0, .bool false, .int .i64 0, .string (⟨#[]⟩ : ByteArray)] 25)).cell? ⟨w.heap.size + 1, 2, none⟩ = some (.bool false) := (blk_cell k2 2).trans rfl; have hfz2 := blk_frozen k2 2; have hcz3 : ((w.alloc (.cells #[.int .i64 t0, .int .i64 t1] 23)).alloc (.cells #[.int .i64 0, .int .i64 0, .bool false, .int .i64 0, .string (⟨#[]⟩ : ByteArray)] 25)).cell? ⟨w.heap.size + 1, 3, none⟩ = some (.int .i64 0) := (blk_cell k2 3).trans rfl; have hfz3 := blk_frozen k2 3; have hcz4 : ((w.alloc (.cells #[.int .i64 t0, .int .i64 t1] 23)).alloc (.cells #[.int .i64 0, .int .i64 0, .bool false, .int .i64 0, .string (⟨#[]⟩ : ByteArray)] 25)).cell? ⟨w.heap.size + 1, 4, none⟩ = some (.string (⟨#[]⟩ : ByteArray)) := (blk_cell k2 4).trans rfl; have hfz4 := blk_frozen k2 4
 go_enter Tryz.func13, Tryz.ntmps13
 go_wp2
 refine bodyPost_ret (results_ct rfl _ _ (w.heap.size + 1) 25 #[.int .i64 t0, .int .i64 t1, .bool false, .int .i64 0, .string (⟨#[]⟩ : ByteArray)] (0, 0) _ rfl (by (with_reducible repeat (first | refine blk_drewN ?_ _ | refine blk_drew ?_)); exact value_read.new2 _ _ _) Tryz.underlying25 rfl zE5_5) rfl ?_
 exact ⟨by first | rfl | (simp; done) | (simp [*]; done), by repeat (first | (with_reducible first | exact HB.out | apply below_alloc | apply pw_below_drewN | apply below_drew1 | refine below_set ?_ (Nat.le_succ _)) | exact HB.out)⟩
theorem value_read.calls (k : Nat) (a0 : ByteArray) (a1_0 : Int) (a1_1 : Int) (r1 : Int) (r2 : Int) (r3 : Bool) (r4 : Int) (r5 : ByteArray) (r6 : Int) (w : World) (h : value_read.f k a0 a1_0 a1_1 = some (r1, r2, r3, r4, r5, r6)) (hG : Gl w) :
  Calls Tryz.prog 13 #[.string a0, .agg #[.int .i64 a1_0, .int .i64 a1_1]] w fun e w' => e = .returned (.tuple #[.agg #[.int .i64 r1, .int .i64 r2, .bool r3, .int .i64 r4, .string r5], .int .i64 r6]) ∧ Below w.heap.size w w' := by
 have ok : ∀ t0 n : Int, some (value_read.fin t0 a1_1 n 0) = some (r1, r2, r3, r4, r5, r6) → t0 = r1 ∧ a1_1 = r2 ∧ false = r3 ∧ n = r4 ∧ (⟨#[]⟩ : ByteArray) = r5 ∧ 0 = r6 := fun t0 n q => by
  unfold value_read.fin at q
  rw [if_pos rfl] at q
  simpa only [Option.some.injEq, Prod.mk.injEq] using q
 have no : ∀ t0 n e : Int, ¬ e = 0 → some (value_read.fin t0 a1_1 n e) = some (r1, r2, r3, r4, r5, r6) → 0 = r1 ∧ 0 = r2 ∧ false = r3 ∧ 0 = r4 ∧ (⟨#[]⟩ : ByteArray) = r5 ∧ 22 = r6 := fun t0 n e he q => by
  unfold value_read.fin at q
  rw [if_neg he] at q
  simpa only [Option.some.injEq, Prod.mk.injEq] using q
 unfold value_read.f at h
 by_cases c1 : a1_0 = 1
 ·rw [if_pos c1] at h
  subst c1
  obtain ⟨c, h1, h⟩ := Option.bind_eq_some_iff.mp h
  by_cases d1 : c = (⟨#[84, 82, 85, 69]⟩ : ByteArray)
  ·rw [if_pos d1] at h
   obtain ⟨rfl, rfl, rfl, rfl, rfl, rfl⟩ := ok _ _ h
   subst d1
   exact value_read.true_ a0 _ w hG h1
  ·rw [if_neg d1] at h
   by_cases d2 : c = (⟨#[70, 65, 76, 83, 69]⟩ : ByteArray)
   ·rw [if_pos d2] at h
    obtain ⟨rfl, rfl, rfl, rfl, rfl, rfl⟩ := ok _ _ h
    subst d2
    exact value_read.false_ a0 _ w hG h1
   ·rw [if_neg d2] at h
    obtain ⟨rfl, rfl, rfl, rfl, rfl, rfl⟩ := no _ _ _ (by decide) h
    exact value_read.none_ a0 c _ w hG h1 d1 d2
 ·rw [if_neg c1] at h
  by_cases c2 : a1_0 = 2
  ·rw [if_pos c2] at h
   subst c2
   obtain ⟨⟨n, e⟩, h1, h⟩ := Option.bind_eq_some_iff.mp h
   by_cases d : e = 0
   ·subst d
    obtain ⟨rfl, rfl, rfl, rfl, rfl, rfl⟩ := ok _ _ h
    exact value_read.intOk a0 _ _ w hG h1
   ·obtain ⟨rfl, rfl, rfl, rfl, rfl, rfl⟩ := no _ _ _ d h
    exact value_read.intNo a0 n e _ w hG h1 d
  ·rw [if_neg c2] at h
   by_cases c3 : a1_0 = 3
   ·rw [if_pos c3] at h
    subst c3
    obtain ⟨⟨n, s, e⟩, h1, h⟩ := Option.bind_eq_some_iff.mp h
    simp only at h
    by_cases d : e = 0
    ·rw [if_pos d] at h
     subst d
     obtain ⟨⟨m, e⟩, h2, h⟩ := Option.bind_eq_some_iff.mp h
     by_cases d : e = 0
     ·subst d
      obtain ⟨rfl, rfl, rfl, rfl, rfl, rfl⟩ := ok _ _ h
      exact value_read.decOk k a0 n s _ _ w hG h1 h2
     ·obtain ⟨rfl, rfl, rfl, rfl, rfl, rfl⟩ := no _ _ _ d h
      exact value_read.decFar k a0 n s m e _ w hG h1 h2 d
    ·rw [if_neg d] at h
     obtain ⟨rfl, rfl, rfl, rfl, rfl, rfl⟩ := no _ _ _ d h
     exact value_read.decNo a0 n s e _ w hG h1 d
   ·rw [if_neg c3] at h
    by_cases c5 : a1_0 = 5
    ·rw [if_pos c5] at h
     subst c5
     obtain ⟨⟨n, e⟩, h1, h⟩ := Option.bind_eq_some_iff.mp h
     by_cases d : e = 0
     ·subst d
      obtain ⟨rfl, rfl, rfl, rfl, rfl, rfl⟩ := ok _ _ h
      exact value_read.dayOk k a0 _ _ w hG h1
     ·obtain ⟨rfl, rfl, rfl, rfl, rfl, rfl⟩ := no _ _ _ d h
      exact value_read.dayNo k a0 n e _ w hG h1 d
    ·rw [if_neg c5] at h
     obtain ⟨rfl, rfl, rfl, rfl, rfl, rfl⟩ := ok _ _ h
     exact value_read.rest a0 _ _ w hG c1 c2 c3 c5


/-! ### value_places: function 16 -/
def value_places.f (a0_0 : Int) (a0_1 : Int) (a0_2 : Bool) (a0_3 : Int) (a0_4 : ByteArray) : Option (Int) := if a0_0 = 3 then (some (mn (mx a0_1 0) 18)) else (some 0)
set_option maxHeartbeats 8000000 in
set_option maxRecDepth 100000 in
theorem value_places.calls (a0_0 : Int) (a0_1 : Int) (a0_2 : Bool) (a0_3 : Int) (a0_4 : ByteArray) (r : Int) (w : World) (h : value_places.f a0_0 a0_1 a0_2 a0_3 a0_4 = some r) :
  Calls Tryz.prog 16 #[.agg #[.int .i64 a0_0, .int .i64 a0_1, .bool a0_2, .int .i64 a0_3, .string a0_4]] w fun e w' => e = .returned (.int .i64 r) ∧ Below w.heap.size w w' := by
 have hu25 := Tryz.underlying25
 have HB := Aside0.mk (Below.refl w.heap.size w)
 have HF_ := Aside0.mk h
 clear h
 go_enter Tryz.func16, Tryz.ntmps16
 go_upto_region 1 with (first | ((with_reducible refine gate_dst (N := 1) rfl ?_); refine box_event ?hg (N := 1) ?hd (cs := #[.int .i64 a0_0, .int .i64 a0_1, .bool a0_2, .int .i64 a0_3, .string a0_4]) (t := 25) ?hr ?_; (case hd => rfl); (case hg => rfl); (case hr => first | (go_simp; done) | (go_simp; rfl)); intro gb182 hg w5 hbox hb; have n0_ := Aside0.mk (below_step zE5_0 hb); have n1_ := Aside0.mk (hbox); have n2_ := Aside0.mk ((by rw [hg]; exact (below_size zE5_0) : w.heap.size ≤ gb182)); have n3_ := Aside0.mk ((by rw [hg]; exact (below_size zE5_0) : w.heap.size ≤ gb182)); clear HB; have HB := n0_; have BK182 := n1_; have GW182 := n2_; have GE182 := n3_; clear n0_ n1_ n2_ n3_; clear hb hbox hg; have hcz6_0 : w5.cell? ⟨gb182, 0, none⟩ = some (.int .i64 a0_0) := (blk_cell BK182.out 0).trans rfl; have hcz6_1 : w5.cell? ⟨gb182, 1, none⟩ = some (.int .i64 a0_1) := (blk_cell BK182.out 1).trans rfl; have hcz6_2 : w5.cell? ⟨gb182, 2, none⟩ = some (.bool a0_2) := (blk_cell BK182.out 2).trans rfl; have hcz6_3 : w5.cell? ⟨gb182, 3, none⟩ = some (.int .i64 a0_3) := (blk_cell BK182.out 3).trans rfl; have hcz6_4 : w5.cell? ⟨gb182, 4, none⟩ = some (.string a0_4) := (blk_cell BK182.out 4).trans rfl; have hfz6_0 := blk_frozen BK182.out 0; have hfz6_1 := blk_frozen BK182.out 1; have hfz6_2 := blk_frozen BK182.out 2; have hfz6_3 := blk_frozen BK182.out 3; have hfz6_4 := blk_frozen BK182.out 4))
 (try simp only [Act.put, List.setIfInBounds_toArray, List.set_cons_zero, List.set_cons_succ])
 have h := HF_.out
 clear HF_
 have H : (if a0_0 = 3 then (some (mn (mx a0_1 0) 18)) else (some 0)) = some r := h
 clear h
 by_cases c2 : a0_0 = 3
 ·rw [if_pos c2] at H
  have c2b0 : (a0_0 == 3) = true := beq_iff_eq.mpr c2
  have c2b1 : (a0_0 != 3) = false := bne_eq_false_iff_eq.mpr c2
  clear c2
  obtain ⟨ji3, hji3⟩ : ∃ j_ : Int, (mx a0_1 0) = j_ := ⟨_, rfl⟩
  replace H : (some (mn (ji3) 18)) = some r := by first | (rw [hji3] at H; exact H) | (simp only [hji3] at H ⊢; exact H)
  (try (have hji3l : 0 ≤ ji3 := by (rw [← hji3]; unfold mx; (repeat' split) <;> omega)))
  (try (have hji3m : 0 ≤ ji3 := by omega))
  have hji3_ : (if a0_1 < 0 then 0 else a0_1) = ji3 := hji3
  obtain ⟨ji4, hji4⟩ : ∃ j_ : Int, (mn (ji3) 18) = j_ := ⟨_, rfl⟩
  replace H : (some ji4) = some r := by first | (rw [hji4] at H; exact H) | (simp only [hji4] at H ⊢; exact H)
  have hji4_ : (if 18 < (ji3) then 18 else (ji3)) = ji4 := hji4
  obtain rfl := Option.some.inj H
  go_wp2
  go_ret
  exact ⟨by first | rfl | (simp [errW_none, errW_some] <;> rfl) | (simp only [← hji3, ← hji4]; first | rfl | (simp [errW_none, errW_some] <;> rfl)) | (simp [*, errW_none, errW_some] <;> rfl), by repeat (first | (with_reducible first | exact HB.out | apply below_alloc | apply pw_below_drewN | apply below_drew1 | refine below_set ?_ GE182.out) | exact HB.out)⟩
 ·rw [if_neg c2] at H
  have c2b0 : (a0_0 == 3) = false := beq_eq_false_iff_ne.mpr c2
  have c2b1 : (a0_0 != 3) = true := bne_iff_ne.mpr c2
  obtain rfl := Option.some.inj H
  go_wp2
  go_ret
  exact ⟨by first | rfl | (simp [errW_none, errW_some] <;> rfl) | (simp [*, errW_none, errW_some] <;> rfl), by repeat (first | (with_reducible first | exact HB.out | apply below_alloc | apply pw_below_drewN | apply below_drew1 | refine below_set ?_ GE182.out) | exact HB.out)⟩

end Go.Proofs.YtjpgjggbanpegaaGreatDoor.E
