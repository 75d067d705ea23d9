/- What the printed functions of products compute, for whole numbers of 64 bits. -/
import Derived.Test.YtmeopdjdjmjngaaGreatDoorWide
import Derived.Test.YtmeopdjdjmjngaaGreatDoorG3
import Derived.Test.YtmeopdjdjmjngaaGreatDoorG99
import Derived.OpenShut
namespace Go.Proofs.YtmeopdjdjmjngaaGreatDoor.Pure
open Go.RowKit Go.Proofs.YtmeopdjdjmjngaaGreatDoor.G Go.Proofs.YtmeopdjdjmjngaaGreatDoorW.PrintWords Go.Proofs.YtmeopdjdjmjngaaGreatDoorW.PrintLast Go.Proofs.YtmeopdjdjmjngaaGreatDoor.Wide

def In64 (a : Int) : Prop := -9223372036854775808 ≤ a ∧ a ≤ 9223372036854775807
def InU (a : Int) : Prop := 0 ≤ a ∧ a < 18446744073709551616
theorem InU_U (x : Int) : InU (U x) := by unfold InU; rw [U_mod]; omega
theorem w64_mod (x : Int) : wrap64 x = (x + 9223372036854775808) % 18446744073709551616 - 9223372036854775808 := by unfold wrap64; rfl

theorem product_is {x y : Int} (hx : InU x) (hy : InU y) : colonnaderef01_product.f x y = some (hi x y, lo x y) := by
  have e1 := and32 hx.1 hx.2
  have e2 := and32 hy.1 hy.2
  have e3 := and32 (InU_U (U ((x / 4294967296) * (y % 4294967296)) + pp x y / 4294967296)).1 (InU_U _).2
  have e4 := and32 (InU_U ((x % 4294967296) * (y % 4294967296))).1 (InU_U _).2
  have e5 := or32 (x := U (rr x y * 4294967296)) (y := pp x y % 4294967296) (InU_U _).1 (by rw [U_mod]; omega) (InU_U _).2 (by omega) (by omega)
  unfold colonnaderef01_product.f
  simp only [hi, lo, rr, qq, pp, U] at e3 e4 e5 ⊢
  simp only [e1, e2, e3, e4, e5]

theorem WideMul_prod (a b : Int) : num_WideMul.f a b = (colonnaderef01_product.f (U a) (U b)).bind fun t => some (if a < 0 then (if b < 0 then wrap64 (wrap64 (wrap64 t.1 - b) - a) else wrap64 (wrap64 t.1 - b)) else (if b < 0 then wrap64 (wrap64 t.1 - a) else wrap64 t.1), t.2) := by
  unfold num_WideMul.f colonnaderef01_product.f U
  simp only [Option.bind_some]
  by_cases h1 : a < 0 <;> by_cases h2 : b < 0 <;> simp only [h1, h2, if_true, if_false]

/-- num's wide product is the product. -/
theorem WideMul_is {a b : Int} (ha : In64 a) (hb : In64 b) : ∃ h l, num_WideMul.f a b = some (h, l) ∧ In64 h ∧ InU l ∧ h * 18446744073709551616 + l = a * b := by
  rw [WideMul_prod, product_is (InU_U a) (InU_U b)]
  obtain ⟨e, h0, h1, l0, l1⟩ := hilo (U a) (U b) (InU_U a).1 (InU_U a).2 (InU_U b).1 (InU_U b).2
  have pb := prod_bd ha hb
  obtain ⟨ha1, ha2⟩ := ha
  obtain ⟨hb1, hb2⟩ := hb
  obtain ⟨H, hH⟩ : ∃ z, z = hi (U a) (U b) := ⟨_, rfl⟩
  obtain ⟨L, hL⟩ : ∃ z, z = lo (U a) (U b) := ⟨_, rfl⟩
  rw [← hH, ← hL] at e ⊢
  rw [← hH] at h0 h1
  rw [← hL] at l0 l1
  clear hH hL
  have ea : U a = if a < 0 then a + 18446744073709551616 else a := by rw [U_mod]; split <;> omega
  have eb : U b = if b < 0 then b + 18446744073709551616 else b := by rw [U_mod]; split <;> omega
  rw [ea, eb] at e
  clear ea eb
  simp only [Option.bind_some]
  by_cases c1 : a < 0
  · by_cases c2 : b < 0
    · rw [if_pos c1, if_pos c2, Int.add_mul, Int.mul_add, Int.mul_add] at e
      rw [if_pos c1, if_pos c2]
      obtain ⟨P, hP⟩ : ∃ z, z = a * b := ⟨_, rfl⟩
      rw [← hP] at e pb ⊢
      refine ⟨_, _, rfl, ?_, ?_, ?_⟩ <;> simp only [In64, InU, w64_mod] <;> omega
    · rw [if_pos c1, if_neg c2, Int.add_mul] at e
      rw [if_pos c1, if_neg c2]
      obtain ⟨P, hP⟩ : ∃ z, z = a * b := ⟨_, rfl⟩
      rw [← hP] at e pb ⊢
      refine ⟨_, _, rfl, ?_, ?_, ?_⟩ <;> simp only [In64, InU, w64_mod] <;> omega
  · by_cases c2 : b < 0
    · rw [if_neg c1, if_pos c2, Int.mul_add] at e
      rw [if_neg c1, if_pos c2]
      obtain ⟨P, hP⟩ : ∃ z, z = a * b := ⟨_, rfl⟩
      rw [← hP] at e pb ⊢
      refine ⟨_, _, rfl, ?_, ?_, ?_⟩ <;> simp only [In64, InU, w64_mod] <;> omega
    · rw [if_neg c1, if_neg c2] at e
      rw [if_neg c1, if_neg c2]
      obtain ⟨P, hP⟩ : ∃ z, z = a * b := ⟨_, rfl⟩
      rw [← hP] at e pb ⊢
      refine ⟨_, _, rfl, ?_, ?_, ?_⟩ <;> simp only [In64, InU, w64_mod] <;> omega

theorem amount_is (a : Int) (ha : In64 a) : ∃ m, colonnaderef01_amount.f a = some m ∧ InU m ∧ m ≤ 9223372036854775808 ∧ m = if a < 0 then -a else a := by
  obtain ⟨h1, h2⟩ := ha
  unfold colonnaderef01_amount.f InU
  simp only [IntKind.wrap_u64]
  by_cases c : a < 0
  · rw [if_pos c]; refine ⟨_, rfl, ?_, ?_, ?_⟩ <;> (try simp only [if_pos c]) <;> omega
  · rw [if_neg c]; refine ⟨_, rfl, ?_, ?_, ?_⟩ <;> (try simp only [if_neg c]) <;> omega

/-- an amount with a sign -/
theorem signed_neg (k : Nat) (hk : 1 ≤ k) (n : Int) (hn : InU n) : (n ≤ 9223372036854775808 → colonnaderef01_signed.f k n true = some (-n, 0)) ∧ (9223372036854775808 < n → colonnaderef01_signed.f k n true = some (0, 10)) := by
  obtain ⟨k, rfl⟩ : ∃ i, k = i + 1 := ⟨k - 1, by omega⟩
  obtain ⟨h1, h2⟩ := hn
  unfold colonnaderef01_signed.f
  simp only [colonnaderef01_signed.j0, IntKind.wrap_u64, w64_mod, if_true]
  refine ⟨fun c => ?_, fun c => ?_⟩
  · rw [if_pos (decide_eq_true c)]; congr 2; omega
  · rw [decide_eq_false (by omega), if_neg (by simp), if_pos (by omega)]
theorem signed_pos (k : Nat) (hk : 1 ≤ k) (n : Int) (hn : InU n) : (n ≤ 9223372036854775807 → colonnaderef01_signed.f k n false = some (n, 0)) ∧ (9223372036854775807 < n → colonnaderef01_signed.f k n false = some (0, 10)) := by
  obtain ⟨k, rfl⟩ : ∃ i, k = i + 1 := ⟨k - 1, by omega⟩
  obtain ⟨h1, h2⟩ := hn
  unfold colonnaderef01_signed.f
  simp only [colonnaderef01_signed.j0, IntKind.wrap_u64, w64_mod]
  refine ⟨fun c => ?_, fun c => ?_⟩
  · rw [if_neg (by simp), if_neg (by simp), if_neg (by omega)]; congr 2; omega
  · rw [if_neg (by simp), if_neg (by simp), if_pos (by omega)]

theorem Narrow_is {h l : Int} (hh : In64 h) (hl : InU l) : (In64 (h * 18446744073709551616 + l) → num_Narrow.f h l = some (h * 18446744073709551616 + l, 0)) ∧ (¬ In64 (h * 18446744073709551616 + l) → num_Narrow.f h l = some (0, 10)) := by
  obtain ⟨h1, h2⟩ := hh
  obtain ⟨l1, l2⟩ := hl
  unfold num_Narrow.f In64
  simp only [w64_mod]
  refine ⟨fun c => ?_, fun c => ?_⟩
  · rw [if_pos (by omega)]; congr 2; omega
  · rw [if_neg (by omega)]

/-- the product of two numbers, or that it is too great: both ways -/
theorem Mul_is {a b : Int} (ha : In64 a) (hb : In64 b) (k : Nat) (hk : 1 ≤ k) : ∃ r, num_Mul.f a b = some r ∧ colonnaderef01_Mul.f k a b = some r ∧ (In64 (a * b) → r = (a * b, 0)) ∧ (¬ In64 (a * b) → r = (0, 10)) := by
  obtain ⟨h, l, e, hh, hl, eq⟩ := WideMul_is ha hb
  obtain ⟨m, em, mu, mb, ma⟩ := amount_is a ha
  obtain ⟨n, en, nu, nb, na⟩ := amount_is b hb
  obtain ⟨eq2, g0, g1, l0, l1⟩ := hilo m n mu.1 mu.2 nu.1 nu.2
  have pb := prod_bd ha hb
  have nw := Narrow_is hh hl
  rw [eq] at nw
  have e1 : num_Mul.f a b = num_Narrow.f h l := by
    unfold num_Mul.f; rw [e]; simp only [Option.bind_some]
    by_cases c : In64 (a * b)
    · rw [nw.1 c]; rfl
    · rw [nw.2 c]; rfl
  obtain ⟨H, hH⟩ : ∃ z, z = hi m n := ⟨_, rfl⟩
  obtain ⟨L, hL⟩ : ∃ z, z = lo m n := ⟨_, rfl⟩
  have e2 : colonnaderef01_Mul.f k a b = if H = 0 then (colonnaderef01_signed.f k L ((decide (a < 0)) != (decide (b < 0)))).bind (fun t => some (t.1, t.2)) else some (0, 10) := by
    unfold colonnaderef01_Mul.f
    rw [em, en]
    simp only [Option.bind_some]
    rw [product_is mu nu, ← hH, ← hL]
    simp only [Option.bind_some]
  have emn : m * n = if (a < 0) = (b < 0) then a * b else -(a * b) := by
    rw [ma, na]
    by_cases c1 : a < 0 <;> by_cases c2 : b < 0 <;> simp [c1, c2, Int.neg_mul, Int.mul_neg]
  rw [emn, ← hH, ← hL] at eq2
  rw [← hH] at g0 g1
  rw [← hL] at l0 l1
  have sn := signed_neg k hk L ⟨l0, l1⟩
  have sp := signed_pos k hk L ⟨l0, l1⟩
  rw [e1, e2]
  clear e1 e2 emn hH hL em en e ma na eq
  obtain ⟨P, hP⟩ : ∃ z, z = a * b := ⟨_, rfl⟩
  rw [← hP] at eq2 pb nw ⊢
  clear hP
  have sg : ((decide (a < 0)) != (decide (b < 0))) = !(decide ((a < 0) = (b < 0))) := by by_cases c1 : a < 0 <;> by_cases c2 : b < 0 <;> simp [c1, c2]
  rw [sg]
  clear sg
  by_cases s : (a < 0) = (b < 0)
  · rw [if_pos s] at eq2
    rw [decide_eq_true s]
    by_cases c : In64 P
    · refine ⟨_, nw.1 c, ?_, fun _ => rfl, fun h => absurd c h⟩
      obtain ⟨c1, c2⟩ := c
      rw [if_pos (by omega), Bool.not_true, sp.1 (by omega)]
      simp only [Option.bind_some]; congr 2; omega
    · refine ⟨_, nw.2 c, ?_, fun h => absurd h c, fun _ => rfl⟩
      unfold In64 at c
      by_cases z : H = 0
      · rw [if_pos z, Bool.not_true, sp.2 (by omega)]; rfl
      · rw [if_neg z]
  · rw [if_neg s] at eq2
    rw [decide_eq_false s]
    by_cases c : In64 P
    · refine ⟨_, nw.1 c, ?_, fun _ => rfl, fun h => absurd c h⟩
      obtain ⟨c1, c2⟩ := c
      rw [if_pos (by omega), Bool.not_false, sn.1 (by omega)]
      simp only [Option.bind_some]; congr 2; omega
    · refine ⟨_, nw.2 c, ?_, fun h => absurd h c, fun _ => rfl⟩
      unfold In64 at c
      by_cases z : H = 0
      · rw [if_pos z, Bool.not_false, sn.2 (by omega)]; rfl
      · rw [if_neg z]

end Go.Proofs.YtmeopdjdjmjngaaGreatDoor.Pure
