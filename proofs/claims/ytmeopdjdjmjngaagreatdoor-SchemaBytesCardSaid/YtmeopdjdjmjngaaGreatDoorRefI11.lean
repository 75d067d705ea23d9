/- the reference's forms of numbers and bytes: they end; what they are at small numbers and at texts. -/
import Derived.Test.YtmeopdjdjmjngaaGreatDoorCodS11
import Derived.Test.YtmeopdjdjmjngaaGreatDoorI8
import Derived.Test.YtmeopdjdjmjngaaGreatDoorI9
set_option linter.unusedVariables false
set_option linter.unusedSimpArgs false
namespace Go.Proofs.YtmeopdjdjmjngaaGreatDoor.I
open Go.RowKit Go.Lib Go.Proofs.YtmeopdjdjmjngaaGreatDoorW.PrintWords Go.Proofs.YtmeopdjdjmjngaaGreatDoorW.PrintLast Go.Proofs.YtmeopdjdjmjngaaGreatDoorW.PrintMore Go.Proofs.YtmeopdjdjmjngaaGreatDoor.Cod
theorem w64b (z : Int) (h0 : -9223372036854775808 ≤ z) (h1 : z ≤ 9223372036854775807) : wrap64 z = z := by unfold wrap64; omega
theorem w64r (z : Int) : -9223372036854775808 ≤ wrap64 z ∧ wrap64 z ≤ 9223372036854775807 := by unfold wrap64; omega
theorem up_l1 (low : List Int) (hl : low.length ≤ 100) : ∀ (c k : Nat) (acc : List Int), c ≤ low.length → acc.length + c ≤ 1000 → c < k → ∃ r, colonnaderef03_up.l1 k low acc ((c : Int) - 1) = some r ∧ r.length = acc.length + c := by
  intro c
  induction c with
  | zero =>
    intro k acc _ _ hk
    obtain ⟨k, rfl⟩ : ∃ m, k = m + 1 := ⟨k - 1, by omega⟩
    rw [colonnaderef03_up.l1, if_neg (by omega)]
    exact ⟨acc, rfl, by simp⟩
  | succ c ih =>
    intro k acc hc ha hk
    obtain ⟨k, rfl⟩ : ∃ m, k = m + 1 := ⟨k - 1, by omega⟩
    rw [colonnaderef03_up.l1, if_pos (by omega), if_pos (by omega), if_pos (by omega), if_pos (by omega), w64b _ (by omega) (by omega), show (((c + 1 : Nat) : Int) - 1 - 1) = (c : Int) - 1 by omega]
    obtain ⟨r, h1, h2⟩ := ih k (acc ++ [rd low (((c + 1 : Nat) : Int) - 1)]) (by omega) (by simp; omega) (by omega)
    exact ⟨r, h1, by rw [h2]; simp; omega⟩
theorem up_low (k : Nat) (hk : 110 < k) (low : List Int) (hl : low.length ≤ 100) : ∃ r, colonnaderef03_up.l1 k low [(wrap64 (247 + (low.length : Int))) % 256] (wrap64 ((low.length : Int) - 1)) = some r ∧ r.length ≤ 101 := by
  rw [w64b ((low.length : Int) - 1) (by omega) (by omega)]
  obtain ⟨r, h1, h2⟩ := up_l1 low hl low.length k [(wrap64 (247 + (low.length : Int))) % 256] (Nat.le_refl _) (by simp; omega) (by omega)
  exact ⟨r, h1, by rw [h2]; simp; omega⟩
theorem up_z (k : Nat) (hk : 120 < k) (low : List Int) (hl : low.length ≤ 99) : ∃ r, colonnaderef03_up.l0 k 0 low = some r ∧ r.length ≤ 101 := by
  obtain ⟨k, rfl⟩ : ∃ m, k = m + 2 := ⟨k - 2, by omega⟩
  rw [colonnaderef03_up.l0, if_neg (by omega)]
  by_cases h0 : low.length = 0
  · rw [if_pos (by omega), if_pos (by omega), show wrap64 (Int.tdiv 0 256) = 0 by unfold wrap64; simp, colonnaderef03_up.l0, if_neg (by omega), if_neg (by simp; omega)]
    exact up_low k (by omega) _ (by simp; omega)
  · rw [if_neg (by omega)]
    exact up_low (k + 1) (by omega) _ (by omega)
theorem up_l0 : ∀ (j k : Nat) (m : Int) (low : List Int), 0 ≤ m → m < (256 : Int) ^ j → m ≤ 9223372036854775807 → low.length + j ≤ 50 → j + 130 < k → ∃ r, colonnaderef03_up.l0 k m low = some r ∧ r.length ≤ 101 := by
  intro j
  induction j with
  | zero =>
    intro k m low h0 h1 _ hl hk
    have : m = 0 := by simp at h1; omega
    subst this
    exact up_z k (by omega) low (by omega)
  | succ j ih =>
    intro k m low h0 h1 hm hl hk
    by_cases hz : m = 0
    · subst hz
      exact up_z k (by omega) low (by omega)
    · obtain ⟨k, rfl⟩ : ∃ q, k = q + 1 := ⟨k - 1, by omega⟩
      rw [colonnaderef03_up.l0, if_pos (by omega), if_pos (by omega), Int.tdiv_eq_ediv_of_nonneg h0, w64b _ (by omega) (by omega)]
      refine ih k _ _ (by omega) ?_ (by omega) (by simp; omega) (by omega)
      rw [Int.pow_succ] at h1
      omega
theorem up_ends (n : Int) (h0 : 0 ≤ n) (h1 : n ≤ 9223372036854775807) (k : Nat) (hk : 140 < k) : ∃ r, colonnaderef03_up.f k n = some r ∧ r.length ≤ 101 := by
  unfold colonnaderef03_up.f
  by_cases c : n < 120
  · rw [if_pos c]
    exact ⟨_, rfl, by simp⟩
  · rw [if_neg c, w64b _ (by omega) (by omega)]
    exact up_l0 8 k (n - 120) [] (by omega) (by have : (256 : Int) ^ 8 = 18446744073709551616 := by decide
                                                omega) (by omega) (by simp) (by omega)
theorem turned_l0 (xs : List Int) (hl : xs.length ≤ 1000) : ∀ (d k i : Nat) (acc : List Int), i + d = xs.length → acc.length = i → d < k → ∃ r, colonnaderef03_turned.l0 k xs acc (i : Int) = some r ∧ r.length = xs.length := by
  intro d
  induction d with
  | zero =>
    intro k i acc hi ha hk
    obtain ⟨k, rfl⟩ : ∃ m, k = m + 1 := ⟨k - 1, by omega⟩
    rw [colonnaderef03_turned.l0, if_neg (by omega)]
    exact ⟨acc, rfl, by omega⟩
  | succ d ih =>
    intro k i acc hi ha hk
    obtain ⟨k, rfl⟩ : ∃ m, k = m + 1 := ⟨k - 1, by omega⟩
    rw [colonnaderef03_turned.l0, if_pos (by omega), if_pos (by omega), if_pos (by omega), w64b _ (by omega) (by omega), show ((i : Int) + 1) = ((i + 1 : Nat) : Int) by omega]
    exact ih k (i + 1) _ (by omega) (by simp; omega) (by omega)
theorem int_ends (n : Int) (h0 : -9223372036854775808 ≤ n) (h1 : n ≤ 9223372036854775807) (k : Nat) (hk : 1200 < k) : ∃ r, colonnaderef03_Int.f k n = some r := by
  unfold colonnaderef03_Int.f
  by_cases c : n < 0
  · rw [if_pos c, w64b (n + 1) (by omega) (by omega), w64b _ (by omega) (by omega)]
    obtain ⟨r, e, hr⟩ := up_ends (-(n + 1)) (by omega) (by omega) k (by omega)
    rw [e, Option.bind_some]
    unfold colonnaderef03_turned.f
    obtain ⟨r2, e2, _⟩ := turned_l0 r (by omega) r.length k 0 [] (by omega) rfl (by omega)
    rw [show (0 : Int) = ((0 : Nat) : Int) from rfl, e2, Option.bind_some]
    exact ⟨_, rfl⟩
  · rw [if_neg c]
    obtain ⟨r, e, hr⟩ := up_ends n (by omega) (by omega) k (by omega)
    rw [e, Option.bind_some]
    exact ⟨_, rfl⟩
theorem int_small (n : Int) (h0 : 0 ≤ n) (h1 : n < 120) (k : Nat) : colonnaderef03_Int.f k n = some [128 + n] := by
  unfold colonnaderef03_Int.f colonnaderef03_up.f
  rw [if_neg (by omega), if_pos (by omega), w64b _ (by omega) (by omega), show (128 + n) % 256 = 128 + n by omega]
  rfl
theorem C_of_row {W : World} {A : Option Addr} {ys : List Int} (h : RowAt W A ys) (hl : ys.length ≤ 9223372036854775807) : Kd.C (Kd.int .u8) W A ys.length ys := by
  refine ⟨rfl, hl, fun hp => ?_⟩
  obtain ⟨ad, e, _⟩ := h 0 hp
  subst e
  refine ⟨ad, rfl, fun j p hj => ⟨[.int .u8 p], rfl, rfl, fun i u hu => ?_⟩⟩
  have hjl := (List.getElem?_eq_some_iff.1 hj).1
  obtain ⟨ad', e, hc⟩ := h j hjl
  obtain rfl := Option.some.inj e
  match i, hu with
  | 0, hu =>
    simp at hu
    subst hu
    rw [List.getD_eq_getElem?_getD, hj] at hc
    have e : j * (Kd.int IntKind.u8).sz + 0 = j := by show j * 1 + 0 = j; omega
    rw [e]
    exact hc
  | i + 1, hu => simp at hu
theorem int_any (n : Int) (h0 : -9223372036854775808 ≤ n) (h1 : n ≤ 9223372036854775807) (W : World) : Calls Tryz.prog 72 #[.int .i64 n] W fun e w' => ∃ A c m, e = .returned (.slice A m c) ∧ Below W.heap.size W w' := by
  obtain ⟨r, e⟩ := int_ends n h0 h1 1300 (by omega)
  refine (colonnaderef03_Int.calls 1300 n r W e).mono ?_
  rintro e w1 ⟨v, rfl, hR, hb⟩
  obtain ⟨A, c, rfl, _, _⟩ := Kd.R_reads hR
  exact ⟨A, c, _, rfl, hb⟩
def PiPost (W : World) (ys : List Int) (e : Ending) (w' : World) : Prop :=
  ∃ n k f : Int, e = .returned (.tuple #[.int .i64 n, .int .i64 k, .int .i64 f]) ∧ Below W.heap.size W w' ∧ (0 ≤ k ∧ k ≤ (ys.length : Int)) ∧ ∀ x r, ys = x :: r → 128 ≤ x → x ≤ 247 → n = x - 128 ∧ k = 1 ∧ f = 0
set_option maxHeartbeats 4000000 in
set_option maxRecDepth 100000 in
theorem pi_nil (c : Nat) (A : Option Addr) (W : World) : Calls Tryz.prog 121 #[.slice A 0 c] W (PiPost W []) := by
  go_enter Tryz.func121, Tryz.ntmps121
  go_wp2
  go_ret3
  exact ⟨0, 0, 30, rfl, Below.refl _ _, ⟨by decide, by decide⟩, fun x r h => by cases h⟩
set_option maxHeartbeats 4000000 in
set_option maxRecDepth 100000 in
theorem pi_low (c : Nat) (ad : Addr) (ys : List Int) (W : World) (hx : BytesAt W ad ys) (hp : 0 < ys.length) (hx0 : 128 ≤ ys.getD 0 0) (hx1 : ys.getD 0 0 ≤ 247) : Calls Tryz.prog 121 #[.slice (some ad) ys.length c] W (PiPost W ys) := by
  have g0 := hx 0 hp
  rw [add_zero'] at g0
  have HN := Aside0.mk (show ∀ (x : Int) (r : List Int), ys = x :: r → ys.getD 0 0 = x from fun x r h => by subst h; rfl)
  clear hx
  generalize ys.getD 0 0 = x at g0 hx0 hx1 HN
  have hn : ¬ (x < 128) := by omega
  have hn2 : x < 248 := by omega
  go_enter Tryz.func121, Tryz.ntmps121
  go_wp2
  go_ret3
  exact ⟨_, _, _, rfl, Below.refl _ _, ⟨by omega, by omega⟩, fun x' r h h1 h2 => by have := HN.out x' r h; subst this; exact ⟨rfl, rfl, rfl⟩⟩
set_option maxHeartbeats 4000000 in
set_option maxRecDepth 100000 in
theorem pi_high (c : Nat) (ad : Addr) (ys : List Int) (W : World) (hx : BytesAt W ad ys) (hr : RdOk ys) (hp : 0 < ys.length) (hlen : ys.length ≤ 140737488355328) (hc : ys.length ≤ c) (hx0 : 247 < ys.getD 0 0) : Calls Tryz.prog 121 #[.slice (some ad) ys.length c] W (PiPost W ys) := by
  have g0 := hx 0 hp
  obtain ⟨h0, h1⟩ := hr 0 hp
  rw [add_zero'] at g0
  have HX := Aside0.mk hx
  have HR := Aside0.mk hr
  have HN := Aside0.mk (show ∀ (x : Int) (r : List Int), ys = x :: r → 128 ≤ x → x ≤ 247 → False from fun x r h q1 q2 => by subst h; simp at hx0; omega)
  clear hx hr
  generalize ys.getD 0 0 = x at g0 h0 h1 hx0
  have hn : ¬ (x < 128) := by omega
  have hn2 : ¬ (x < 248) := by omega
  obtain ⟨kn, hk⟩ := Int.eq_ofNat_of_zero_le (show 0 ≤ x - 247 by omega)
  have hk8 : kn ≤ 8 := by omega
  have hk0 : 1 ≤ kn := by omega
  by_cases hs : (ys.length : Int) < 1 + (kn : Int)
  · go_enter Tryz.func121, Tryz.ntmps121
    go_wp2
    go_ret3
    exact ⟨_, _, _, rfl, Below.refl _ _, ⟨by omega, by omega⟩, fun x' r' h h1 h2 => (HN.out x' r' h h1 h2).elim⟩
  · have IE := Aside0.mk (fun (n : Int) (q0 : -9223372036854775808 ≤ n) (q1 : n ≤ 9223372036854775807) => int_any n q0 q1 W)
    go_enter Tryz.func121, Tryz.ntmps121
    go_wp2
    go_loopg [9, 10] (kn + 1) (fun kq v9 v10 w' => ∃ (i : Nat) (m : Int), v10 = .int .i64 (i : Int) ∧ v9 = .int .u64 m ∧ w' = W ∧ Aside0 (i + kq = kn + 2 ∧ i ≤ kn + 1 ∧ 1 ≤ i) ∧ Aside0 (0 ≤ m ∧ m < 18446744073709551616))
    case atStart => exact ⟨1, 0, rfl, rfl, rfl, ⟨⟨by omega, by omega, by omega⟩⟩, ⟨⟨by omega, by omega⟩⟩⟩
    case round =>
      obtain ⟨i, m, rfl, rfl, hw, HI, HM⟩ := hrel
      replace hw := hw.symm
      subst hw
      cases gk with
      | zero => exact absurd HI.out (by omega)
      | succ k1 =>
        rcases Nat.lt_or_ge kn i with cI | cI
        · have hI : i = kn + 1 := by have := HI.out; omega
          subst hI
          have c0 : decide (((kn + 1 : Nat) : Int) ≤ (kn : Int)) = false := decide_eq_false (by omega)
          obtain ⟨m0, m1⟩ := HM.out
          by_cases hbig : m > 9223372036854775687
          · go_wp2
            go_ret3
            exact ⟨_, _, _, rfl, Below.refl _ _, ⟨by omega, by omega⟩, fun x' r' h h1 h2 => (HN.out x' r' h h1 h2).elim⟩
          · go_wp2_with (go_at_call 72; refine (IE.out _ ?q0 ?q1).mono ?_; (case q0 => omega); (case q1 => omega); rintro e w1 ⟨A1, c1, n1, rfl, hb⟩; have HB := Aside0.mk hb; clear hb)
            all_goals go_ret3
            all_goals exact ⟨_, _, _, rfl, HB.out, ⟨by omega, by omega⟩, fun x' r' h h1 h2 => (HN.out x' r' h h1 h2).elim⟩
        · have c0 : decide ((i : Int) ≤ (kn : Int)) = true := decide_eq_true (by omega)
          have hi1 := HI.out.2.2
          have hxi := HX.out i (by omega)
          obtain ⟨r0, r1⟩ := HR.out i (by omega)
          generalize ys.getD i 0 = y at hxi r0 r1
          obtain ⟨m0, m1⟩ := HM.out
          go_wp2
          obtain ⟨a0, a1⟩ := u64_range (IntKind.u64.wrap (m * 256) + y)
          generalize IntKind.u64.wrap (IntKind.u64.wrap (m * 256) + y) = m' at a0 a1 ⊢
          go_roundg k1
          case measure => omega
          case rel => exact ⟨i + 1, m', rfl, rfl, rfl, ⟨by have := HI.out; exact ⟨by omega, by omega, by omega⟩⟩, ⟨⟨a0, a1⟩⟩⟩
set_option maxHeartbeats 4000000 in
set_option maxRecDepth 100000 in
theorem pi_neg (c : Nat) (ad : Addr) (ys : List Int) (W : World) (hx : BytesAt W ad ys) (hr : RdOk ys) (hp : 0 < ys.length) (hlen : ys.length ≤ 140737488355328) (hc : ys.length ≤ c) (hx0 : ys.getD 0 0 < 128) : Calls Tryz.prog 121 #[.slice (some ad) ys.length c] W (PiPost W ys) := by
  have g0 := hx 0 hp
  obtain ⟨h0, h1⟩ := hr 0 hp
  rw [add_zero'] at g0
  have HX := Aside0.mk hx
  have HR := Aside0.mk hr
  have HN := Aside0.mk (show ∀ (x : Int) (r : List Int), ys = x :: r → 128 ≤ x → x ≤ 247 → False from fun x r h q1 q2 => by subst h; simp at hx0; omega)
  clear hx hr
  generalize ys.getD 0 0 = x at g0 h0 h1 hx0
  have hq : (255 - x) % 256 = 255 - x := by omega
  by_cases hle : 255 - x < 248
  · go_enter Tryz.func121, Tryz.ntmps121
    go_wp2
    go_ret3
    exact ⟨_, _, _, rfl, Below.refl _ _, ⟨by omega, by omega⟩, fun x' r' h h1 h2 => (HN.out x' r' h h1 h2).elim⟩
  obtain ⟨kn, hk⟩ := Int.eq_ofNat_of_zero_le (show 0 ≤ 255 - x - 247 by omega)
  have hk8 : kn ≤ 8 := by omega
  have hk0 : 1 ≤ kn := by omega
  by_cases hs : (ys.length : Int) < 1 + (kn : Int)
  · go_enter Tryz.func121, Tryz.ntmps121
    go_wp2
    go_ret3
    exact ⟨_, _, _, rfl, Below.refl _ _, ⟨by omega, by omega⟩, fun x' r' h h1 h2 => (HN.out x' r' h h1 h2).elim⟩
  · have IE := Aside0.mk (fun (n : Int) (q0 : -9223372036854775808 ≤ n) (q1 : n ≤ 9223372036854775807) => int_any n q0 q1 W)
    go_enter Tryz.func121, Tryz.ntmps121
    go_wp2
    go_loopg [9, 10] (kn + 1) (fun kq v9 v10 w' => ∃ (i : Nat) (m : Int), v10 = .int .i64 (i : Int) ∧ v9 = .int .u64 m ∧ w' = W ∧ Aside0 (i + kq = kn + 2 ∧ i ≤ kn + 1 ∧ 1 ≤ i) ∧ Aside0 (0 ≤ m ∧ m < 18446744073709551616))
    case atStart => exact ⟨1, 0, rfl, rfl, rfl, ⟨⟨by omega, by omega, by omega⟩⟩, ⟨⟨by omega, by omega⟩⟩⟩
    case round =>
      obtain ⟨i, m, rfl, rfl, hw, HI, HM⟩ := hrel
      replace hw := hw.symm
      subst hw
      cases gk with
      | zero => exact absurd HI.out (by omega)
      | succ k1 =>
        rcases Nat.lt_or_ge kn i with cI | cI
        · have hI : i = kn + 1 := by have := HI.out; omega
          subst hI
          have c0 : decide (((kn + 1 : Nat) : Int) ≤ (kn : Int)) = false := decide_eq_false (by omega)
          obtain ⟨m0, m1⟩ := HM.out
          by_cases hbig : m > 9223372036854775687
          · go_wp2
            go_ret3
            exact ⟨_, _, _, rfl, Below.refl _ _, ⟨by omega, by omega⟩, fun x' r' h h1 h2 => (HN.out x' r' h h1 h2).elim⟩
          · go_wp2_with (go_at_call 72; refine (IE.out _ ?q0 ?q1).mono ?_; (case q0 => omega); (case q1 => omega); rintro e w1 ⟨A1, c1, n1, rfl, hb⟩; have HB := Aside0.mk hb; clear hb)
            all_goals go_ret3
            all_goals exact ⟨_, _, _, rfl, HB.out, ⟨by omega, by omega⟩, fun x' r' h h1 h2 => (HN.out x' r' h h1 h2).elim⟩
        · have c0 : decide ((i : Int) ≤ (kn : Int)) = true := decide_eq_true (by omega)
          have hi1 := HI.out.2.2
          have hxi := HX.out i (by omega)
          obtain ⟨r0, r1⟩ := HR.out i (by omega)
          generalize ys.getD i 0 = y at hxi r0 r1
          have hy9 : (255 - y) % 256 = 255 - y := by omega
          obtain ⟨m0, m1⟩ := HM.out
          go_wp2
          obtain ⟨a0, a1⟩ := u64_range (IntKind.u64.wrap (m * 256) + (255 - y))
          generalize IntKind.u64.wrap (IntKind.u64.wrap (m * 256) + (255 - y)) = m' at a0 a1 ⊢
          go_roundg k1
          case measure => omega
          case rel => exact ⟨i + 1, m', rfl, rfl, rfl, ⟨by have := HI.out; exact ⟨by omega, by omega, by omega⟩⟩, ⟨⟨a0, a1⟩⟩⟩
theorem pi_calls (A : Option Addr) (c : Nat) (ys : List Int) (W : World) (hA : RowAt W A ys) (hr : RdOk ys) (hlen : ys.length ≤ 140737488355328) (hc : ys.length ≤ c) : Calls Tryz.prog 121 #[.slice A ys.length c] W (PiPost W ys) := by
  rcases Nat.eq_zero_or_pos ys.length with h0 | hp
  · obtain rfl := List.length_eq_zero_iff.1 h0
    exact pi_nil c A W
  · obtain ⟨ad, rfl, _⟩ := hA 0 hp
    have hx := hA.bytes
    by_cases h1 : ys.getD 0 0 < 128
    · exact pi_neg c ad ys W hx hr hp hlen hc h1
    · by_cases h2 : ys.getD 0 0 ≤ 247
      · exact pi_low c ad ys W hx hp (by omega) h2
      · exact pi_high c ad ys W hx hr hp hlen hc (by omega)
end Go.Proofs.YtmeopdjdjmjngaaGreatDoor.I
