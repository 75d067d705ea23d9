/- PRINTED BY A PROGRAM OF THIS SESSION (px.py, over the kit's print): Lean functions with the answers of Go functions of the given program, and proofs that the Go code comes to these answers; each under the conditions that its theorem states. -/
import Derived.Test.YtmjpdhledcfjaaaDoorR0
namespace Go.Proofs.YtmjpdhledcfjaaaDoor.R
open Go.RowKit Go.Proofs.YtmjpdhledcfjaaaDoorW.PrintWords Go.Proofs.YtmjpdhledcfjaaaDoorW.PrintLast Go.Proofs.YtmjpdhledcfjaaaDoorW.PrintMore
attribute [local go_sem] max2_int min2_int max_two min_two max_three min_three max_four min_four   -- for this text's walks alone
set_option linter.unusedVariables false
set_option linter.unusedSimpArgs false

/-! ### colonnaderef01_plain: function 61 -/
def colonnaderef01_plain.l0 : Nat → Int → Int → ByteArray → Option (ByteArray)
  | 0, _, _, _ => none
  | k + 1, x0, x1, x5 => if x0 > 0 then ((some (([(IntKind.u64.wrap (48 + (Int.tmod x0 10))) % 256] : List Int) : List Int)).bind fun y202 => (if (strOfNums y202).size + x5.size ≤ 9223372036854775807 then (colonnaderef01_plain.l0 k (IntKind.u64.wrap (Int.tdiv x0 10)) x1 ((strOfNums y202) ++ x5)) else (none))) else (if (x5.size : Int) < x1 then ((some (([(IntKind.u64.wrap (48 + (Int.tmod x0 10))) % 256] : List Int) : List Int)).bind fun y205 => (if (strOfNums y205).size + x5.size ≤ 9223372036854775807 then (colonnaderef01_plain.l0 k (IntKind.u64.wrap (Int.tdiv x0 10)) x1 ((strOfNums y205) ++ x5)) else (none))) else (some x5))
def colonnaderef01_plain.f (k : Nat) (a0 : Int) (a1 : Int) : Option (ByteArray) := colonnaderef01_plain.l0 k a0 a1 (⟨#[]⟩ : ByteArray)
theorem colonnaderef01_plain.mono_l : ∀ k, (∀ y0 y1 y2, LeO (colonnaderef01_plain.l0 k y0 y1 y2) (colonnaderef01_plain.l0 (k + 1) y0 y1 y2))
  | 0 => fun _ _ _ r h => by simp [colonnaderef01_plain.l0] at h
  | k + 1 => by
    have ih0 := colonnaderef01_plain.mono_l k
    · intro y0 y1 y2
      unfold colonnaderef01_plain.l0
      repeat' first
      | (with_reducible exact ih0 _ _ _)
      | (with_reducible exact LeO.refl _)
      | (with_reducible exact LeO.none _)
      | (with_reducible refine LeO.ite ?_ ?_)
      | (with_reducible refine LeO.bind ?_ (fun _ => ?_))
      | exact ih0 _ _ _
      | exact LeO.none _
      | refine LeO.ite ?_ ?_
      | refine LeO.bind ?_ (fun _ => ?_)
theorem colonnaderef01_plain.mono : ∀ a0 a1 k, LeO (colonnaderef01_plain.f k a0 a1) (colonnaderef01_plain.f (k + 1) a0 a1) := by
  intro a0 a1 k
  have ih0 := colonnaderef01_plain.mono_l k
  unfold colonnaderef01_plain.f
  repeat' first
      | (with_reducible exact ih0 _ _ _)
      | (with_reducible exact LeO.refl _)
      | (with_reducible exact LeO.none _)
      | (with_reducible refine LeO.ite ?_ ?_)
      | (with_reducible refine LeO.bind ?_ (fun _ => ?_))
      | exact ih0 _ _ _
      | exact LeO.none _
      | refine LeO.ite ?_ ?_
      | refine LeO.bind ?_ (fun _ => ?_)
set_option maxHeartbeats 8000000 in
set_option maxRecDepth 100000 in
theorem colonnaderef01_plain.calls (k : Nat) (a0 : Int) (a1 : Int) (r : ByteArray) (w : World) (h : colonnaderef01_plain.f k a0 a1 = some r) :
    Calls Tryd.prog 61 #[.int .u64 a0, .int .i64 a1] w fun e w' => e = .returned (.string r) ∧ Below w.heap.size w w' := by
  have HB := Aside0.mk (Below.refl w.heap.size w)
  have H : (colonnaderef01_plain.l0 k a0 a1 (⟨#[]⟩ : ByteArray)) = some r := h
  clear h
  have H' := Aside0.mk H
  clear H
  go_enter Tryd.func61, Tryd.ntmps61
  go_wp2
  go_loopg [0, 5] k (fun kq v0 v5 w' => ∃ (x0_1 : Int) (x5_1 : ByteArray), v0 = .int .u64 x0_1 ∧ v5 = .string x5_1 ∧ Aside0 (colonnaderef01_plain.l0 kq x0_1 a1 x5_1 = some r) ∧ Aside0 (kq ≤ k) ∧ Aside0 (Below w.heap.size w w'))
  case atStart => exact ⟨(a0), ((⟨#[]⟩ : ByteArray)), (by first | rfl | (simp; done) | (simp [*]; done)), (by first | rfl | (simp; done) | (simp [*]; done)), H', ⟨Nat.le_refl _⟩, ⟨by repeat (first | (with_reducible first | exact HB.out | apply below_alloc | apply pw_below_drewN | apply below_drew1) | exact HB.out)⟩⟩
  case round =>
    clear H'
    try clear p2
    obtain ⟨x0_1, x5_1, rfl, rfl, HA, HK1, HB⟩ := hrel
    cases gk with
    | zero => exact absurd HA.out (by simp [colonnaderef01_plain.l0])
    | succ k1 =>
      have H := HA.out
      clear HA
      simp only [colonnaderef01_plain.l0] at H
      by_cases c3 : x0_1 > 0
      · rw [if_pos c3] at H
        have c3b0 : decide (0 < x0_1) = true := decide_eq_true c3
        clear c3
        obtain ⟨y202, hy202⟩ : ∃ y_ : List Int, y_ = (([(IntKind.u64.wrap (48 + (Int.tmod x0_1 10))) % 256] : List Int)) := ⟨_, rfl⟩
        replace H : (if (strOfNums y202).size + x5_1.size ≤ 9223372036854775807 then (colonnaderef01_plain.l0 k1 (IntKind.u64.wrap (Int.tdiv x0_1 10)) a1 ((strOfNums y202) ++ x5_1)) else (none)) = some r := by first | (rw [hy202]; with_reducible exact H) | (have H2_ := (Option.bind_some _ _).symm.trans H; rw [hy202]; with_reducible exact H2_) | (have H2_ := (Option.bind_some _ _).symm.trans H; with_reducible exact H2_) | with_reducible exact H | (rw [hy202]; exact H) | exact H
        have Ny202 := Aside0.mk hy202
        clear hy202
        by_cases c4 : (strOfNums y202).size + x5_1.size ≤ 9223372036854775807
        · rw [if_pos c4] at H
          have c4b0 := eq_true c4
          (try (have c4n := c4; simp [size_lit] at c4n))
          have c4b1 : decide ((strOfNums y202).size + x5_1.size ≤ 9223372036854775807) = true := decide_eq_true c4
          try have c4b2 : (9223372036854775807 < (strOfNums y202).size + x5_1.size) = False := eq_false (Nat.not_lt.2 c4)
          have H' := Aside0.mk H
          clear H
          go_wp2_with (first | ((with_reducible refine gate_dst (N := 18) rfl ?_); (try (refine gate_guard (by rfl) ?_; dsimp only)); refine Kd.R_lit (Kd.int .u8) _ 5 ?hg (N := 18) ?hd (xs := ([(IntKind.u64.wrap (48 + (Int.tmod x0_1 10))) % 256] : List Int)) (inner := [.int .u8 ((IntKind.u64.wrap (48 + (Int.tmod x0_1 10))) % 256)]) (ok := fun _ => True) (okp := fun _ => True) ?hr ?hp (fun _ hk => hk) trivial (Below.refl _ _) (Nat.le_refl _) (by simp) ?_; (case hd => rfl); (case hg => rfl); (case hr => first | (go_simp; done) | (go_simp; rfl)); (case hp => exact (Reps.one (show Kd.M (Kd.int .u8) _ _ _ ((IntKind.u64.wrap (48 + (Int.tmod x0_1 10))) % 256) [.int .u8 ((IntKind.u64.wrap (48 + (Int.tmod x0_1 10))) % 256)] from rfl) (Reps.none _ _))); intro v203 w5 ho6 hb hg_ hnew_; clear hg_ hnew_; (first | rw [← Ny202.out] at ho6 | (simp only [Int.reduceToNat] at ho6; rw [← Ny202.out] at ho6)); have n0_ := Aside0.mk (Kd.R_lower ho6 (below_size (by repeat (first | (with_reducible first | exact HB.out | apply below_alloc | apply pw_below_drewN | apply below_drew1) | exact HB.out)))); have n1_ := Aside0.mk (below_step (by repeat (first | (with_reducible first | exact HB.out | apply below_alloc | apply pw_below_drewN | apply below_drew1) | exact HB.out)) hb); clear HB; have HO204 := n0_; have HB := n1_; clear n0_ n1_; clear hb ho6; have hcv7 := own_string (P := Tryd.prog) Tryd.underlying83 Tryd.underlying5 Tryd.underlying9 (Kd.own_of_R HO204.out)))
          go_roundg k1
          case measure => have := HK1.out; omega
          case rel => exact ⟨(IntKind.u64.wrap (Int.tdiv x0_1 10)), ((strOfNums y202) ++ x5_1), (by first | rfl | (simp; done) | (simp [*]; done)), (by first | rfl | (simp; done) | (simp [*]; done)), H', ⟨by have := HK1.out; omega⟩, ⟨by repeat (first | (with_reducible first | exact HB.out | apply below_alloc | apply pw_below_drewN | apply below_drew1) | exact HB.out)⟩⟩
        · rw [if_neg c4] at H
          exact absurd H (by simp)
      · rw [if_neg c3] at H
        have c3b0 : decide (0 < x0_1) = false := decide_eq_false c3
        clear c3
        by_cases c8 : (x5_1.size : Int) < a1
        · rw [if_pos c8] at H
          have c8b0 : decide ((x5_1.size : Int) < a1) = true := decide_eq_true c8
          clear c8
          obtain ⟨y205, hy205⟩ : ∃ y_ : List Int, y_ = (([(IntKind.u64.wrap (48 + (Int.tmod x0_1 10))) % 256] : List Int)) := ⟨_, rfl⟩
          replace H : (if (strOfNums y205).size + x5_1.size ≤ 9223372036854775807 then (colonnaderef01_plain.l0 k1 (IntKind.u64.wrap (Int.tdiv x0_1 10)) a1 ((strOfNums y205) ++ x5_1)) else (none)) = some r := by first | (rw [hy205]; with_reducible exact H) | (have H2_ := (Option.bind_some _ _).symm.trans H; rw [hy205]; with_reducible exact H2_) | (have H2_ := (Option.bind_some _ _).symm.trans H; with_reducible exact H2_) | with_reducible exact H | (rw [hy205]; exact H) | exact H
          have Ny205 := Aside0.mk hy205
          clear hy205
          by_cases c9 : (strOfNums y205).size + x5_1.size ≤ 9223372036854775807
          · rw [if_pos c9] at H
            have c9b0 := eq_true c9
            (try (have c9n := c9; simp [size_lit] at c9n))
            have c9b1 : decide ((strOfNums y205).size + x5_1.size ≤ 9223372036854775807) = true := decide_eq_true c9
            try have c9b2 : (9223372036854775807 < (strOfNums y205).size + x5_1.size) = False := eq_false (Nat.not_lt.2 c9)
            have H' := Aside0.mk H
            clear H
            go_wp2_with (first | ((with_reducible refine gate_dst (N := 18) rfl ?_); (try (refine gate_guard (by rfl) ?_; dsimp only)); refine Kd.R_lit (Kd.int .u8) _ 5 ?hg (N := 18) ?hd (xs := ([(IntKind.u64.wrap (48 + (Int.tmod x0_1 10))) % 256] : List Int)) (inner := [.int .u8 ((IntKind.u64.wrap (48 + (Int.tmod x0_1 10))) % 256)]) (ok := fun _ => True) (okp := fun _ => True) ?hr ?hp (fun _ hk => hk) trivial (Below.refl _ _) (Nat.le_refl _) (by simp) ?_; (case hd => rfl); (case hg => rfl); (case hr => first | (go_simp; done) | (go_simp; rfl)); (case hp => exact (Reps.one (show Kd.M (Kd.int .u8) _ _ _ ((IntKind.u64.wrap (48 + (Int.tmod x0_1 10))) % 256) [.int .u8 ((IntKind.u64.wrap (48 + (Int.tmod x0_1 10))) % 256)] from rfl) (Reps.none _ _))); intro v206 w10 ho11 hb hg_ hnew_; clear hg_ hnew_; (first | rw [← Ny205.out] at ho11 | (simp only [Int.reduceToNat] at ho11; rw [← Ny205.out] at ho11)); have n0_ := Aside0.mk (Kd.R_lower ho11 (below_size (by repeat (first | (with_reducible first | exact HB.out | apply below_alloc | apply pw_below_drewN | apply below_drew1) | exact HB.out)))); have n1_ := Aside0.mk (below_step (by repeat (first | (with_reducible first | exact HB.out | apply below_alloc | apply pw_below_drewN | apply below_drew1) | exact HB.out)) hb); clear HB; have HO207 := n0_; have HB := n1_; clear n0_ n1_; clear hb ho11; have hcv12 := own_string (P := Tryd.prog) Tryd.underlying83 Tryd.underlying5 Tryd.underlying9 (Kd.own_of_R HO207.out)))
            go_roundg k1
            case measure => have := HK1.out; omega
            case rel => exact ⟨(IntKind.u64.wrap (Int.tdiv x0_1 10)), ((strOfNums y205) ++ x5_1), (by first | rfl | (simp; done) | (simp [*]; done)), (by first | rfl | (simp; done) | (simp [*]; done)), H', ⟨by have := HK1.out; omega⟩, ⟨by repeat (first | (with_reducible first | exact HB.out | apply below_alloc | apply pw_below_drewN | apply below_drew1) | exact HB.out)⟩⟩
          · rw [if_neg c9] at H
            exact absurd H (by simp)
        · rw [if_neg c8] at H
          have c8b0 : decide ((x5_1.size : Int) < a1) = false := decide_eq_false c8
          clear c8
          obtain rfl := Option.some.inj H
          go_wp2
          go_ret
          exact ⟨by first | rfl | (simp [errW_none, errW_some] <;> rfl) | (simp [*, errW_none, errW_some] <;> rfl), by repeat (first | (with_reducible first | exact HB.out | apply below_alloc | apply pw_below_drewN | apply below_drew1) | exact HB.out)⟩

/-! ### colonnaderef01_amount: function 62 -/
def colonnaderef01_amount.f (a0 : Int) : Option (Int) := if a0 < 0 then (some (IntKind.u64.wrap (-(IntKind.u64.wrap (a0))))) else (some (IntKind.u64.wrap (a0)))
set_option maxHeartbeats 8000000 in
set_option maxRecDepth 100000 in
theorem colonnaderef01_amount.calls (a0 : Int) (r : Int) (w : World) (h : colonnaderef01_amount.f a0 = some r) :
    Calls Tryd.prog 62 #[.int .i64 a0] w fun e w' => e = .returned (.int .u64 r) ∧ Drawn0 w w' := by
  have H : (if a0 < 0 then (some (IntKind.u64.wrap (-(IntKind.u64.wrap (a0))))) else (some (IntKind.u64.wrap (a0)))) = some r := h
  clear h
  by_cases c2 : a0 < 0
  · rw [if_pos c2] at H
    have c2b0 : decide (a0 < 0) = true := decide_eq_true c2
    clear c2
    obtain rfl := Option.some.inj H
    go_enter Tryd.func62, Tryd.ntmps62
    go_wp2
    go_ret
    exact ⟨by first | rfl | (simp; done) | (simp [*]; done), by repeat (first | exact Drawn0.refl _ | apply Drawn0.step)⟩
  · rw [if_neg c2] at H
    have c2b0 : decide (a0 < 0) = false := decide_eq_false c2
    clear c2
    obtain rfl := Option.some.inj H
    go_enter Tryd.func62, Tryd.ntmps62
    go_wp2
    go_ret
    exact ⟨by first | rfl | (simp; done) | (simp [*]; done), by repeat (first | exact Drawn0.refl _ | apply Drawn0.step)⟩

/-! ### colonnaderef01_FormatDec: function 27, by hand -/
def colonnaderef01_FormatDec.sgn (b : Bool) (s : ByteArray) : ByteArray := if b = true then (⟨#[45]⟩ : ByteArray) ++ s else s
def colonnaderef01_FormatDec.pnt (n : Nat) (p : ByteArray) : ByteArray := if 0 < n then (p.extract 0 (p.size - n) ++ (⟨#[46]⟩ : ByteArray)) ++ p.extract (p.size - n) p.size else p
def colonnaderef01_FormatDec.f (k : Nat) (a0 : Int) (a1 : Int) : Option (ByteArray × Int) := if 0 ≤ a1 then (if a1 ≤ 18 then ((colonnaderef01_amount.f a0).bind fun t => ((colonnaderef01_plain.f k t (wrap64 (a1 + 1))).bind fun p => (if p.size ≤ 1000000 ∧ a1.toNat ≤ p.size then some (colonnaderef01_FormatDec.sgn (decide (a0 < 0)) (colonnaderef01_FormatDec.pnt a1.toNat p), 0) else none))) else some ((⟨#[]⟩ : ByteArray), 1)) else some ((⟨#[]⟩ : ByteArray), 1)
theorem colonnaderef01_FormatDec.mono : ∀ a0 a1 k, LeO (colonnaderef01_FormatDec.f k a0 a1) (colonnaderef01_FormatDec.f (k + 1) a0 a1) := by
  intro a0 a1 k
  unfold colonnaderef01_FormatDec.f
  repeat' first
      | (with_reducible exact colonnaderef01_plain.mono _ _ _)
      | (with_reducible exact LeO.refl _)
      | (with_reducible exact LeO.none _)
      | (with_reducible refine LeO.ite ?_ ?_)
      | (with_reducible refine LeO.bind ?_ (fun _ => ?_))
      | exact colonnaderef01_plain.mono _ _ _
set_option maxHeartbeats 8000000 in
set_option maxRecDepth 100000 in
theorem colonnaderef01_FormatDec.no1 (a0 a1 : Int) (w : World) (ht : a1 < 0) :
    Calls Tryd.prog 27 #[.int .i64 a0, .int .i64 a1] w fun e w' => e = .returned (.tuple #[.string (⟨#[]⟩ : ByteArray), .int .i64 1]) ∧ Below w.heap.size w w' := by
  have c1 : decide (a1 < 0) = true := decide_eq_true ht
  go_enter Tryd.func27, Tryd.ntmps27
  go_wp2
  go_ret2
  exact ⟨by first | rfl | (simp; done) | (simp [*]; done), Below.refl _ _⟩
set_option maxHeartbeats 8000000 in
set_option maxRecDepth 100000 in
theorem colonnaderef01_FormatDec.no2 (a0 a1 : Int) (w : World) (ht : 18 < a1) :
    Calls Tryd.prog 27 #[.int .i64 a0, .int .i64 a1] w fun e w' => e = .returned (.tuple #[.string (⟨#[]⟩ : ByteArray), .int .i64 1]) ∧ Below w.heap.size w w' := by
  have c1 : decide (a1 < 0) = false := decide_eq_false (by omega)
  have c2 : decide (18 < a1) = true := decide_eq_true ht
  go_enter Tryd.func27, Tryd.ntmps27
  go_wp2
  go_ret2
  exact ⟨by first | rfl | (simp; done) | (simp [*]; done), Below.refl _ _⟩
set_option maxHeartbeats 8000000 in
set_option maxRecDepth 100000 in
theorem colonnaderef01_FormatDec.yes00 (k : Nat) (a0 : Int) (t : Int) (p : ByteArray) (ha : ¬ a0 < 0) (w : World) (h3 : colonnaderef01_amount.f a0 = some t) (h7 : colonnaderef01_plain.f k t 1 = some p) (hp : p.size ≤ 1000000) :
    Calls Tryd.prog 27 #[.int .i64 a0, .int .i64 0] w fun e w' => e = .returned (.tuple #[.string (p), .int .i64 0]) ∧ Below w.heap.size w w' := by
  have HB := Aside0.mk (Below.refl w.heap.size w)
  have A3 := Aside0.mk h3
  have A7 := Aside0.mk h7
  have hab : decide (a0 < 0) = false := by simpa using ha
  clear h3 h7 ha
  go_enter Tryd.func27, Tryd.ntmps27
  go_wp2_with (first | (go_at_call 62; (with_reducible refine (colonnaderef01_amount.calls a0 t _ A3.out).mono ?_); rintro e w' ⟨rfl, ⟨nd, rfl⟩⟩; (try first | exact ⟨rfl, _, World.drewN_drewN _ _ _⟩ | exact ⟨rfl, _, Eq.trans (World.drewN_drewN _ _ _) (congrArg (World.drewN _) (Nat.add_assoc _ _ _))⟩)) | (go_at_call 61; (with_reducible refine (colonnaderef01_plain.calls k t 1 p _ A7.out).mono ?_); rintro e w9 ⟨rfl, hb⟩; have n0_ := Aside0.mk (below_step (by repeat (first | (with_reducible first | exact HB.out | apply below_alloc | apply pw_below_drewN | apply below_drew1) | exact HB.out)) hb); clear HB; have HB := n0_; clear n0_; clear hb))
  go_ret2
  exact ⟨by first | rfl | (simp; done) | (simp [*]; done), by repeat (first | (with_reducible first | exact HB.out | apply below_alloc | apply pw_below_drewN | apply below_drew1) | exact HB.out)⟩
set_option maxHeartbeats 8000000 in
set_option maxRecDepth 100000 in
theorem colonnaderef01_FormatDec.yes01 (k : Nat) (a0 : Int) (t : Int) (p : ByteArray) (ha : a0 < 0) (w : World) (h3 : colonnaderef01_amount.f a0 = some t) (h7 : colonnaderef01_plain.f k t 1 = some p) (hp : p.size ≤ 1000000) :
    Calls Tryd.prog 27 #[.int .i64 a0, .int .i64 0] w fun e w' => e = .returned (.tuple #[.string ((⟨#[45]⟩ : ByteArray) ++ p), .int .i64 0]) ∧ Below w.heap.size w w' := by
  have HB := Aside0.mk (Below.refl w.heap.size w)
  have A3 := Aside0.mk h3
  have A7 := Aside0.mk h7
  have hab : decide (a0 < 0) = true := by simpa using ha
  clear h3 h7 ha
  go_enter Tryd.func27, Tryd.ntmps27
  go_wp2_with (first | (go_at_call 62; (with_reducible refine (colonnaderef01_amount.calls a0 t _ A3.out).mono ?_); rintro e w' ⟨rfl, ⟨nd, rfl⟩⟩; (try first | exact ⟨rfl, _, World.drewN_drewN _ _ _⟩ | exact ⟨rfl, _, Eq.trans (World.drewN_drewN _ _ _) (congrArg (World.drewN _) (Nat.add_assoc _ _ _))⟩)) | (go_at_call 61; (with_reducible refine (colonnaderef01_plain.calls k t 1 p _ A7.out).mono ?_); rintro e w9 ⟨rfl, hb⟩; have n0_ := Aside0.mk (below_step (by repeat (first | (with_reducible first | exact HB.out | apply below_alloc | apply pw_below_drewN | apply below_drew1) | exact HB.out)) hb); clear HB; have HB := n0_; clear n0_; clear hb))
  go_ret2
  exact ⟨by first | rfl | (simp; done) | (simp [*]; done), by repeat (first | (with_reducible first | exact HB.out | apply below_alloc | apply pw_below_drewN | apply below_drew1) | exact HB.out)⟩
set_option maxHeartbeats 8000000 in
set_option maxRecDepth 100000 in
theorem colonnaderef01_FormatDec.yes10 (k : Nat) (a0 : Int) (n m : Nat) (t : Int) (p : ByteArray) (hn : 1 ≤ n) (hn2 : n ≤ 18) (hm : m + n = p.size) (ha : ¬ a0 < 0) (w : World) (h3 : colonnaderef01_amount.f a0 = some t) (h7 : colonnaderef01_plain.f k t ((n : Int) + 1) = some p) (hp : p.size ≤ 1000000) :
    Calls Tryd.prog 27 #[.int .i64 a0, .int .i64 (n : Int)] w fun e w' => e = .returned (.tuple #[.string (((p.extract 0 m ++ (⟨#[46]⟩ : ByteArray)) ++ p.extract m p.size)), .int .i64 0]) ∧ Below w.heap.size w w' := by
  have HB := Aside0.mk (Below.refl w.heap.size w)
  have A3 := Aside0.mk h3
  have A7 := Aside0.mk h7
  have hab : decide (a0 < 0) = false := by simpa using ha
  clear h3 h7 ha
  have hw1 : IntKind.i64.wrap ((p.size : Int) - (n : Int)) = (m : Int) := IntWalk.i64_in _ (by omega) |>.trans (by omega)
  have hw2 : wrap64 ((p.size : Int) - (n : Int)) = (m : Int) := by unfold wrap64; omega
  have hmp : m ≤ p.size := by omega
  have hmp2 : (m : Int) ≤ (p.size : Int) := by omega
  have hd0 : decide ((n : Int) < 0) = false := decide_eq_false (by omega)
  have hd1 : decide (18 < (n : Int)) = false := decide_eq_false (by omega)
  have hd2 : decide (0 < (n : Int)) = true := decide_eq_true (by omega)
  have HM := Aside0.mk hm
  clear hm
  go_enter Tryd.func27, Tryd.ntmps27
  go_wp2_with (first | (go_at_call 62; (with_reducible refine (colonnaderef01_amount.calls a0 t _ A3.out).mono ?_); rintro e w' ⟨rfl, ⟨nd, rfl⟩⟩; (try first | exact ⟨rfl, _, World.drewN_drewN _ _ _⟩ | exact ⟨rfl, _, Eq.trans (World.drewN_drewN _ _ _) (congrArg (World.drewN _) (Nat.add_assoc _ _ _))⟩)) | (go_at_call 61; (with_reducible refine (colonnaderef01_plain.calls k t ((n : Int) + 1) p _ A7.out).mono ?_); rintro e w9 ⟨rfl, hb⟩; have n0_ := Aside0.mk (below_step (by repeat (first | (with_reducible first | exact HB.out | apply below_alloc | apply pw_below_drewN | apply below_drew1) | exact HB.out)) hb); clear HB; have HB := n0_; clear n0_; clear hb))
  go_quiet (fail)
  go_wp2
  go_ret2
  exact ⟨by first | rfl | (simp; done) | (simp [*]; done), by repeat (first | (with_reducible first | exact HB.out | apply below_alloc | apply pw_below_drewN | apply below_drew1) | exact HB.out)⟩
set_option maxHeartbeats 8000000 in
set_option maxRecDepth 100000 in
theorem colonnaderef01_FormatDec.yes11 (k : Nat) (a0 : Int) (n m : Nat) (t : Int) (p : ByteArray) (hn : 1 ≤ n) (hn2 : n ≤ 18) (hm : m + n = p.size) (ha : a0 < 0) (w : World) (h3 : colonnaderef01_amount.f a0 = some t) (h7 : colonnaderef01_plain.f k t ((n : Int) + 1) = some p) (hp : p.size ≤ 1000000) :
    Calls Tryd.prog 27 #[.int .i64 a0, .int .i64 (n : Int)] w fun e w' => e = .returned (.tuple #[.string ((⟨#[45]⟩ : ByteArray) ++ ((p.extract 0 m ++ (⟨#[46]⟩ : ByteArray)) ++ p.extract m p.size)), .int .i64 0]) ∧ Below w.heap.size w w' := by
  have HB := Aside0.mk (Below.refl w.heap.size w)
  have A3 := Aside0.mk h3
  have A7 := Aside0.mk h7
  have hab : decide (a0 < 0) = true := by simpa using ha
  clear h3 h7 ha
  have hw1 : IntKind.i64.wrap ((p.size : Int) - (n : Int)) = (m : Int) := IntWalk.i64_in _ (by omega) |>.trans (by omega)
  have hw2 : wrap64 ((p.size : Int) - (n : Int)) = (m : Int) := by unfold wrap64; omega
  have hmp : m ≤ p.size := by omega
  have hmp2 : (m : Int) ≤ (p.size : Int) := by omega
  have hd0 : decide ((n : Int) < 0) = false := decide_eq_false (by omega)
  have hd1 : decide (18 < (n : Int)) = false := decide_eq_false (by omega)
  have hd2 : decide (0 < (n : Int)) = true := decide_eq_true (by omega)
  have HM := Aside0.mk hm
  clear hm
  go_enter Tryd.func27, Tryd.ntmps27
  go_wp2_with (first | (go_at_call 62; (with_reducible refine (colonnaderef01_amount.calls a0 t _ A3.out).mono ?_); rintro e w' ⟨rfl, ⟨nd, rfl⟩⟩; (try first | exact ⟨rfl, _, World.drewN_drewN _ _ _⟩ | exact ⟨rfl, _, Eq.trans (World.drewN_drewN _ _ _) (congrArg (World.drewN _) (Nat.add_assoc _ _ _))⟩)) | (go_at_call 61; (with_reducible refine (colonnaderef01_plain.calls k t ((n : Int) + 1) p _ A7.out).mono ?_); rintro e w9 ⟨rfl, hb⟩; have n0_ := Aside0.mk (below_step (by repeat (first | (with_reducible first | exact HB.out | apply below_alloc | apply pw_below_drewN | apply below_drew1) | exact HB.out)) hb); clear HB; have HB := n0_; clear n0_; clear hb))
  go_quiet (fail)
  go_wp2
  go_ret2
  exact ⟨by first | rfl | (simp; done) | (simp [*]; done), by repeat (first | (with_reducible first | exact HB.out | apply below_alloc | apply pw_below_drewN | apply below_drew1) | exact HB.out)⟩
theorem colonnaderef01_FormatDec.calls (k : Nat) (a0 : Int) (a1 : Int) (r1 : ByteArray) (r2 : Int) (w : World) (h : colonnaderef01_FormatDec.f k a0 a1 = some (r1, r2)) :
    Calls Tryd.prog 27 #[.int .i64 a0, .int .i64 a1] w fun e w' => e = .returned (.tuple #[.string r1, .int .i64 r2]) ∧ Below w.heap.size w w' := by
  unfold colonnaderef01_FormatDec.f at h
  by_cases h1 : 0 ≤ a1
  · rw [if_pos h1] at h
    by_cases h2 : a1 ≤ 18
    · rw [if_pos h2] at h
      obtain ⟨s, hs, h⟩ := Option.bind_eq_some_iff.mp h
      obtain ⟨p, hp, h⟩ := Option.bind_eq_some_iff.mp h
      by_cases h3 : p.size ≤ 1000000 ∧ a1.toNat ≤ p.size
      · rw [if_pos h3] at h
        simp only [Option.some.injEq, Prod.mk.injEq] at h
        obtain ⟨rfl, rfl⟩ := h
        obtain ⟨n, rfl⟩ := Int.eq_ofNat_of_zero_le h1
        obtain ⟨h3, h4⟩ := h3
        rw [Int.toNat_natCast] at h4 ⊢
        by_cases hz : a0 < 0
        · rw [decide_eq_true hz]
          cases n with
          | zero =>
            rw [show wrap64 (((0 : Nat) : Int) + 1) = 1 from by unfold wrap64; omega] at hp
            exact colonnaderef01_FormatDec.yes01 k a0 s p hz w hs hp h3
          | succ n =>
            rw [show wrap64 (((n + 1 : Nat) : Int) + 1) = ((n + 1 : Nat) : Int) + 1 from by unfold wrap64; omega] at hp
            exact colonnaderef01_FormatDec.yes11 k a0 (n + 1) (p.size - (n + 1)) s p (by omega) (by omega) (by omega) hz w hs hp h3
        · rw [decide_eq_false hz]
          cases n with
          | zero =>
            rw [show wrap64 (((0 : Nat) : Int) + 1) = 1 from by unfold wrap64; omega] at hp
            exact colonnaderef01_FormatDec.yes00 k a0 s p hz w hs hp h3
          | succ n =>
            rw [show wrap64 (((n + 1 : Nat) : Int) + 1) = ((n + 1 : Nat) : Int) + 1 from by unfold wrap64; omega] at hp
            exact colonnaderef01_FormatDec.yes10 k a0 (n + 1) (p.size - (n + 1)) s p (by omega) (by omega) (by omega) hz w hs hp h3
      · rw [if_neg h3] at h; exact absurd h (by simp)
    · rw [if_neg h2] at h
      simp only [Option.some.injEq, Prod.mk.injEq] at h
      obtain ⟨rfl, rfl⟩ := h
      exact colonnaderef01_FormatDec.no2 a0 a1 w (by omega)
  · rw [if_neg h1] at h
    simp only [Option.some.injEq, Prod.mk.injEq] at h
    obtain ⟨rfl, rfl⟩ := h
    exact colonnaderef01_FormatDec.no1 a0 a1 w (by omega)


end Go.Proofs.YtmjpdhledcfjaaaDoor.R
