/- codec.get: the int that bytes begin with. -/
import Derived.Test.YtmeopdjdjmjngaaGreatDoorCodL11
import Derived.Laws.BitsAllLaws
set_option linter.unusedVariables false
set_option linter.unusedSimpArgs false
namespace Go.Proofs.YtmeopdjdjmjngaaGreatDoor.Cod
open Go.RowKit Go.Lib Go.Proofs.YtmeopdjdjmjngaaGreatDoorW.PrintWords Go.Proofs.YtmeopdjdjmjngaaGreatDoorW.PrintLast
def GetPost (W : World) (ys : List Int) (e : Ending) (w' : World) : Prop :=
  ∃ n k f : Int, e = .returned (.tuple #[.int .i64 n, .int .i64 k, .int .i64 f]) ∧ Below W.heap.size W w' ∧ (f = 0 → 0 < k ∧ k ≤ (ys.length : Int)) ∧ ∀ x r, ys = x :: r → 128 ≤ x → x ≤ 247 → n = x - 128 ∧ k = 1 ∧ f = 0
set_option maxHeartbeats 4000000 in
set_option maxRecDepth 100000 in
theorem get_nil (c : Nat) (A : Option Addr) (W : World) : Calls Tryz.prog 118 #[.slice A 0 c] W (GetPost W []) := by
  go_enter Tryz.func118, Tryz.ntmps118
  go_wp2
  go_ret3
  exact ⟨0, 0, 30, rfl, Below.refl _ _, (fun h => absurd h (by decide)), fun x r h => by cases h⟩
theorem xor_zero (x : Int) (h0 : 0 ≤ x) (h1 : x ≤ 255) : Go.bits .xor .u8 x 0 = x := by
  rw [u8_xor x 0 h0 (by omega) (by omega) (by omega)]
  simp
  omega
theorem xor64_zero (q : Int) (h0 : 0 ≤ q) (h1 : q < 9223372036854775808) : bits .xor .i64 q (wrap64 (-wrap64 0)) = q := by
  obtain ⟨a, rfl⟩ := Int.eq_ofNat_of_zero_le h0
  rw [show wrap64 (-wrap64 0) = 0 by unfold wrap64; omega]
  show IntKind.i64.wrap ((BitVec.ofInt 64 (a : Int) ^^^ BitVec.ofInt 64 0).toNat : Int) = _
  have hz : BitVec.ofInt 64 0 = 0#64 := by decide
  rw [hz, BitVec.xor_zero, ofInt_u64 a (by omega)]
  simp [IntKind.wrap, IntKind.bits, IntKind.signed]
  omega
theorem u64_range (z : Int) : 0 ≤ IntKind.u64.wrap z ∧ IntKind.u64.wrap z < 18446744073709551616 := by
  unfold IntKind.wrap IntKind.bits IntKind.signed
  simp
  omega
theorem u8_range (z : Int) : 0 ≤ IntKind.u8.wrap z ∧ IntKind.u8.wrap z < 256 := by
  unfold IntKind.wrap IntKind.bits IntKind.signed
  simp
  omega
theorem x8_range (a b : Int) : 0 ≤ bits .xor .u8 a b ∧ bits .xor .u8 a b < 256 := u8_range _
theorem or_range (a b : Int) : 0 ≤ bits .or .u64 a b ∧ bits .or .u64 a b < 18446744073709551616 := u64_range _
theorem add_one' (ad : Addr) (i : Nat) : ad.add (i + 1) = ⟨ad.block, ad.off + 1 + i, none⟩ := by
  simp [Addr.add]
  omega
theorem add_zero' (ad : Addr) : ad.add 0 = ad := by
  obtain ⟨b, o, sp⟩ := ad
  simp [Addr.add]
set_option maxHeartbeats 4000000 in
set_option maxRecDepth 100000 in
theorem get_low (c : Nat) (ad : Addr) (ys : List Int) (W : World) (hx : BytesAt W ad ys) (x : Int) (r : List Int) (hys : ys = x :: r) (hx0 : 128 ≤ x) (hx1 : x ≤ 247) : Calls Tryz.prog 118 #[.slice (some ad) ys.length c] W (GetPost W ys) := by
  have hl : ys.length = r.length + 1 := by rw [hys]; rfl
  have g0 := hx 0 (by omega)
  have g1 : ys.getD 0 0 = x := by rw [hys]; rfl
  rw [g1, add_zero'] at g0
  have hp : 0 < ys.length := by omega
  have HY := Aside0.mk hys
  clear hys hx g1 hl
  have hn : ¬ (x < 128) := by omega
  have hz := xor_zero x (by omega) (by omega)
  go_enter Tryz.func118, Tryz.ntmps118
  go_wp2
  go_ret3
  refine ⟨_, _, _, rfl, Below.refl _ _, (fun h => by have := HY.out; omega), fun x' r' h h1 h2 => ?_⟩
  rw [HY.out] at h
  obtain ⟨rfl, rfl⟩ := List.cons.inj h
  refine ⟨?_, rfl, rfl⟩
  have hz3 : bits .and .u8 0 1 = 0 := by decide
  rw [hz3]
  exact xor64_zero (x - 128) (by omega) (by omega)
def RdOk (ys : List Int) : Prop := ∀ i, i < ys.length → 0 ≤ ys.getD i 0 ∧ ys.getD i 0 < 256
set_option maxHeartbeats 4000000 in
set_option maxRecDepth 100000 in
theorem get_high (c : Nat) (ad : Addr) (ys : List Int) (W : World) (hx : BytesAt W ad ys) (hr : RdOk ys) (hp : 0 < ys.length) (hlen : ys.length ≤ 140737488355328) (hc : ys.length ≤ c) (hx0 : 247 < ys.getD 0 0) : Calls Tryz.prog 118 #[.slice (some ad) ys.length c] W (GetPost W ys) := by
  have g0 := hx 0 hp
  obtain ⟨h0, h1⟩ := hr 0 hp
  rw [add_zero'] at g0
  have HX := Aside0.mk hx
  have HR := Aside0.mk hr
  have HN := Aside0.mk (show ∀ (x : Int) (r : List Int), ys = x :: r → 128 ≤ x → x ≤ 247 → False from fun x r h q1 q2 => by subst h; simp at hx0; omega)
  clear hx hr
  generalize ys.getD 0 0 = x at g0 h0 h1 hx0
  have hn : ¬ (x < 128) := by omega
  have hn2 : ¬ (x ≤ 247) := by omega
  have hz := xor_zero x (by omega) (by omega)
  have hm : (x - 247) % 256 = x - 247 := by omega
  by_cases hs : (ys.length : Int) ≤ x - 247
  · go_enter Tryz.func118, Tryz.ntmps118
    go_wp2
    go_ret3
    exact ⟨_, _, _, rfl, Below.refl _ _, (fun h => absurd h (by decide)), fun x' r' h h1 h2 => (HN.out x' r' h h1 h2).elim⟩
  · obtain ⟨kn, hk⟩ := Int.eq_ofNat_of_zero_le (show 0 ≤ x - 247 by omega)
    have hs2 : ¬ ((ys.length : Int) ≤ (kn : Int)) := by omega
    have hc1 : ¬ (c = 1) := by omega
    have hc2 : kn ≤ c - 1 := by omega
    have hk0 : ¬ (kn = 0) := by omega
    have hk8 : kn ≤ 8 := by omega
    go_enter Tryz.func118, Tryz.ntmps118
    go_wp2
    go_loopg [8, 46] (kn + 1) (fun kq v8 v46 w' => ∃ (i : Nat) (m : Int), v46 = .int .i64 (i : Int) ∧ v8 = .int .u64 m ∧ w' = W ∧ Aside0 (i + kq = kn + 1 ∧ i ≤ kn) ∧ Aside0 (0 ≤ m ∧ m < 18446744073709551616))
    case atStart => exact ⟨0, 0, rfl, rfl, rfl, ⟨⟨by omega, by omega⟩⟩, ⟨⟨by omega, by omega⟩⟩⟩
    case round =>
      obtain ⟨i, m, rfl, rfl, hw, HI, HM⟩ := hrel
      replace hw := hw.symm
      subst hw
      cases gk with
      | zero => exact absurd HI.out (by omega)
      | succ k1 =>
        rcases Nat.lt_or_ge i kn with cI | cI
        · have c0 : decide ((i : Int) < (kn : Int)) = true := decide_eq_true (by omega)
          have hxi := HX.out (i + 1) (by omega)
          rw [add_one'] at hxi
          obtain ⟨r0, r1⟩ := HR.out (i + 1) (by omega)
          generalize ys.getD (i + 1) 0 = y at hxi r0 r1
          have hz2 := xor_zero y r0 (by omega)
          obtain ⟨m0, m1⟩ := HM.out
          go_wp2
          have hq := or_range (IntKind.u64.wrap (m * 256)) y
          generalize bits BinOp.or IntKind.u64 (IntKind.u64.wrap (m * 256)) y = m' at hq ⊢
          go_roundg k1
          case measure => omega
          case rel => exact ⟨i + 1, m', rfl, rfl, rfl, ⟨by have := HI.out; exact ⟨by omega, by omega⟩⟩, ⟨hq⟩⟩
        · have hI : i = kn := by have := HI.out; omega
          subst hI
          have c0 : decide ((i : Int) < (i : Int)) = false := decide_eq_false (by omega)
          obtain ⟨m0, m1⟩ := HM.out
          by_cases hbig : m > 9223372036854775687
          · go_wp2
            go_ret3
            exact ⟨_, _, _, rfl, Below.refl _ _, (fun h => absurd h (by decide)), fun x' r' h h1 h2 => (HN.out x' r' h h1 h2).elim⟩
          · have SZ := Aside0.mk (fun (n : Int) (q0 : 120 ≤ n) (q1 : n < 9223372036854775808) => size_big n q0 q1 W)
            go_wp2_with (go_at_call 150; refine (SZ.out _ ?q0 ?q1).mono ?_; (case q0 => omega); (case q1 => omega); rintro e w1 ⟨r, rfl, hb⟩; have HB := Aside0.mk hb; clear hb)
            all_goals go_ret3
            · exact ⟨_, _, _, rfl, HB.out, (fun h => absurd h (by decide)), fun x' r' h h1 h2 => (HN.out x' r' h h1 h2).elim⟩
            · exact ⟨_, _, _, rfl, HB.out, (fun h => by omega), fun x' r' h h1 h2 => (HN.out x' r' h h1 h2).elim⟩
set_option maxHeartbeats 4000000 in
set_option maxRecDepth 100000 in
theorem get_neg (c : Nat) (ad : Addr) (ys : List Int) (W : World) (hx : BytesAt W ad ys) (hr : RdOk ys) (hp : 0 < ys.length) (hlen : ys.length ≤ 140737488355328) (hc : ys.length ≤ c) (hx0 : ys.getD 0 0 < 128) : Calls Tryz.prog 118 #[.slice (some ad) ys.length c] W (GetPost W ys) := by
  have g0 := hx 0 hp
  obtain ⟨h0, h1⟩ := hr 0 hp
  rw [add_zero'] at g0
  have HX := Aside0.mk hx
  have HR := Aside0.mk hr
  have HN := Aside0.mk (show ∀ (x : Int) (r : List Int), ys = x :: r → 128 ≤ x → x ≤ 247 → False from fun x r h q1 q2 => by subst h; simp at hx0; omega)
  clear hx hr
  generalize ys.getD 0 0 = x at g0 h0 h1 hx0
  obtain ⟨p0, p1⟩ := x8_range x 255
  have hz : bits .xor .u8 x 255 = bits .xor .u8 x 255 := rfl
  generalize hQ : bits .xor .u8 x 255 = q at p0 p1
  clear hz
  by_cases hle : q ≤ 247
  · go_enter Tryz.func118, Tryz.ntmps118
    go_wp2
    go_ret3
    exact ⟨_, _, _, rfl, Below.refl _ _, (fun h => by omega), fun x' r' h h1 h2 => (HN.out x' r' h h1 h2).elim⟩
  have hm : (q - 247) % 256 = q - 247 := by omega
  by_cases hs : (ys.length : Int) ≤ q - 247
  · go_enter Tryz.func118, Tryz.ntmps118
    go_wp2
    go_ret3
    exact ⟨_, _, _, rfl, Below.refl _ _, (fun h => absurd h (by decide)), fun x' r' h h1 h2 => (HN.out x' r' h h1 h2).elim⟩
  · obtain ⟨kn, hk⟩ := Int.eq_ofNat_of_zero_le (show 0 ≤ q - 247 by omega)
    have hs2 : ¬ ((ys.length : Int) ≤ (kn : Int)) := by omega
    have hc1 : ¬ (c = 1) := by omega
    have hc2 : kn ≤ c - 1 := by omega
    have hk0 : ¬ (kn = 0) := by omega
    have hk8 : kn ≤ 8 := by omega
    go_enter Tryz.func118, Tryz.ntmps118
    go_wp2
    go_loopg [8, 46] (kn + 1) (fun kq v8 v46 w' => ∃ (i : Nat) (m : Int), v46 = .int .i64 (i : Int) ∧ v8 = .int .u64 m ∧ w' = W ∧ Aside0 (i + kq = kn + 1 ∧ i ≤ kn) ∧ Aside0 (0 ≤ m ∧ m < 18446744073709551616))
    case atStart => exact ⟨0, 0, rfl, rfl, rfl, ⟨⟨by omega, by omega⟩⟩, ⟨⟨by omega, by omega⟩⟩⟩
    case round =>
      obtain ⟨i, m, rfl, rfl, hw, HI, HM⟩ := hrel
      replace hw := hw.symm
      subst hw
      cases gk with
      | zero => exact absurd HI.out (by omega)
      | succ k1 =>
        rcases Nat.lt_or_ge i kn with cI | cI
        · have c0 : decide ((i : Int) < (kn : Int)) = true := decide_eq_true (by omega)
          have hxi := HX.out (i + 1) (by omega)
          rw [add_one'] at hxi
          obtain ⟨r0, r1⟩ := HR.out (i + 1) (by omega)
          generalize ys.getD (i + 1) 0 = y at hxi r0 r1
          obtain ⟨v0, v1⟩ := x8_range y 255
          generalize hQ2 : bits .xor .u8 y 255 = q2 at v0 v1
          obtain ⟨m0, m1⟩ := HM.out
          go_wp2
          have hq := or_range (IntKind.u64.wrap (m * 256)) q2
          generalize bits BinOp.or IntKind.u64 (IntKind.u64.wrap (m * 256)) q2 = m' at hq ⊢
          go_roundg k1
          case measure => omega
          case rel => exact ⟨i + 1, m', rfl, rfl, rfl, ⟨by have := HI.out; exact ⟨by omega, by omega⟩⟩, ⟨hq⟩⟩
        · have hI : i = kn := by have := HI.out; omega
          subst hI
          have c0 : decide ((i : Int) < (i : Int)) = false := decide_eq_false (by omega)
          obtain ⟨m0, m1⟩ := HM.out
          by_cases hbig : m > 9223372036854775687
          · go_wp2
            go_ret3
            exact ⟨_, _, _, rfl, Below.refl _ _, (fun h => absurd h (by decide)), fun x' r' h h1 h2 => (HN.out x' r' h h1 h2).elim⟩
          · have SZ := Aside0.mk (fun (n : Int) (q0 : 120 ≤ n) (q1 : n < 9223372036854775808) => size_big n q0 q1 W)
            go_wp2_with (go_at_call 150; refine (SZ.out _ ?q0 ?q1).mono ?_; (case q0 => omega); (case q1 => omega); rintro e w1 ⟨r, rfl, hb⟩; have HB := Aside0.mk hb; clear hb)
            all_goals go_ret3
            · exact ⟨_, _, _, rfl, HB.out, (fun h => absurd h (by decide)), fun x' r' h h1 h2 => (HN.out x' r' h h1 h2).elim⟩
            · exact ⟨_, _, _, rfl, HB.out, (fun h => by omega), fun x' r' h h1 h2 => (HN.out x' r' h h1 h2).elim⟩
theorem get_calls (A : Option Addr) (c : Nat) (ys : List Int) (W : World) (hA : ∀ i, i < ys.length → ∃ ad, A = some ad ∧ W.cell? (ad.add i) = some (.int .u8 (ys.getD i 0))) (hr : RdOk ys) (hlen : ys.length ≤ 140737488355328) (hc : ys.length ≤ c) : Calls Tryz.prog 118 #[.slice A ys.length c] W (GetPost W ys) := by
  rcases Nat.eq_zero_or_pos ys.length with h0 | hp
  · obtain rfl := List.length_eq_zero_iff.1 h0
    exact get_nil c A W
  · obtain ⟨ad, rfl, _⟩ := hA 0 hp
    have hx : BytesAt W ad ys := fun i hi => by
      obtain ⟨ad', e, h⟩ := hA i hi
      obtain rfl := Option.some.inj e
      exact h
    by_cases h1 : ys.getD 0 0 < 128
    · exact get_neg c ad ys W hx hr hp hlen hc h1
    · by_cases h2 : ys.getD 0 0 ≤ 247
      · obtain ⟨x, r, hys⟩ : ∃ x r, ys = x :: r := by
          cases ys with
          | nil => simp at hp
          | cons x r => exact ⟨x, r, rfl⟩
        have e : ys.getD 0 0 = x := by rw [hys]; rfl
        rw [e] at h1 h2
        exact get_low c ad ys W hx x r hys (by omega) h2
      · exact get_high c ad ys W hx hr hp hlen hc (by omega)
end Go.Proofs.YtmeopdjdjmjngaaGreatDoor.Cod
