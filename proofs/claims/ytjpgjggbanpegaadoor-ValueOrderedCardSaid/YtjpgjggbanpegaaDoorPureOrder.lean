/- The order of values: what the printed value.Order computes is a comparison; what value.Test says hangs on it. -/
import Derived.Test.YtjpgjggbanpegaaDoorCmp
import Derived.Test.YtjpgjggbanpegaaDoorPureScale
import Derived.Test.YtjpgjggbanpegaaDoorWide
import Derived.Test.YtjpgjggbanpegaaDoorR3
import Derived.Test.YtjpgjggbanpegaaDoorR4
import Derived.Test.YtjpgjggbanpegaaDoorR5
import Derived.Test.YtjpgjggbanpegaaDoorR6
import Derived.Test.YtjpgjggbanpegaaDoorR7
import Derived.Test.YtjpgjggbanpegaaDoorR8
namespace Go.Proofs.YtjpgjggbanpegaaDoor.Pure
open Go.RowKit Go.Proofs.YtjpgjggbanpegaaDoor.R Go.Proofs.YtjpgjggbanpegaaDoorW.PrintWords Go.Proofs.YtjpgjggbanpegaaDoorW.PrintLast Go.Proofs.YtjpgjggbanpegaaDoor.Str Go.Proofs.YtjpgjggbanpegaaDoor.Wide
def prodF (a0 : Int) (a1 : Int) : Option (Int × Int) := some (IntKind.u64.wrap ((IntKind.u64.wrap ((IntKind.u64.wrap ((a0 / 4294967296) * (a1 / 4294967296))) + ((IntKind.u64.wrap ((IntKind.u64.wrap ((a0 / 4294967296) * (Go.bits .and .u64 a1 4294967295))) + ((IntKind.u64.wrap ((Go.bits .and .u64 a0 4294967295) * (Go.bits .and .u64 a1 4294967295))) / 4294967296))) / 4294967296))) + ((IntKind.u64.wrap ((IntKind.u64.wrap ((Go.bits .and .u64 a0 4294967295) * (a1 / 4294967296))) + (Go.bits .and .u64 (IntKind.u64.wrap ((IntKind.u64.wrap ((a0 / 4294967296) * (Go.bits .and .u64 a1 4294967295))) + ((IntKind.u64.wrap ((Go.bits .and .u64 a0 4294967295) * (Go.bits .and .u64 a1 4294967295))) / 4294967296))) 4294967295))) / 4294967296)), Go.bits .or .u64 (IntKind.u64.wrap ((IntKind.u64.wrap ((IntKind.u64.wrap ((Go.bits .and .u64 a0 4294967295) * (a1 / 4294967296))) + (Go.bits .and .u64 (IntKind.u64.wrap ((IntKind.u64.wrap ((a0 / 4294967296) * (Go.bits .and .u64 a1 4294967295))) + ((IntKind.u64.wrap ((Go.bits .and .u64 a0 4294967295) * (Go.bits .and .u64 a1 4294967295))) / 4294967296))) 4294967295))) * 4294967296)) (Go.bits .and .u64 (IntKind.u64.wrap ((Go.bits .and .u64 a0 4294967295) * (Go.bits .and .u64 a1 4294967295))) 4294967295))
theorem prodF_is {x y : Int} (hx : InU x) (hy : InU y) : prodF x y = some (hi x y, lo x y) := by
  have e1 := and32 hx.1 hx.2
  have e2 := and32 hy.1 hy.2
  have e3 := and32 (InU_U (U ((x / 4294967296) * (y % 4294967296)) + pp x y / 4294967296)).1 (InU_U _).2
  have e4 := and32 (InU_U ((x % 4294967296) * (y % 4294967296))).1 (InU_U _).2
  have e5 := or32 (x := U (rr x y * 4294967296)) (y := pp x y % 4294967296) (InU_U _).1 (by rw [U_mod]; omega) (InU_U _).2 (by omega) (by omega)
  unfold prodF
  simp only [hi, lo, rr, qq, pp, U] at e3 e4 e5 ⊢
  simp only [e1, e2, e3, e4, e5]

theorem WideMul_prodF (a b : Int) : num_WideMul.f a b = (prodF (U a) (U b)).bind fun t => some (if a < 0 then (if b < 0 then wrap64 (wrap64 (wrap64 t.1 - b) - a) else wrap64 (wrap64 t.1 - b)) else (if b < 0 then wrap64 (wrap64 t.1 - a) else wrap64 t.1), t.2) := by
  unfold num_WideMul.f prodF U
  simp only [Option.bind_some]
  by_cases h1 : a < 0 <;> by_cases h2 : b < 0 <;> simp only [h1, h2, if_true, if_false]

/-- num's wide product is the product. -/
theorem WideMul_is {a b : Int} (ha : In64 a) (hb : In64 b) : ∃ h l, num_WideMul.f a b = some (h, l) ∧ In64 h ∧ InU l ∧ h * 18446744073709551616 + l = a * b := by
  rw [WideMul_prodF, prodF_is (InU_U a) (InU_U b)]
  obtain ⟨e, h0, h1, l0, l1⟩ := hilo (U a) (U b) (InU_U a).1 (InU_U a).2 (InU_U b).1 (InU_U b).2
  have pb := prod_bd ha hb
  obtain ⟨ha1, ha2⟩ := ha
  obtain ⟨hb1, hb2⟩ := hb
  obtain ⟨H, hH⟩ : ∃ z, z = hi (U a) (U b) := ⟨_, rfl⟩
  obtain ⟨L, hL⟩ : ∃ z, z = lo (U a) (U b) := ⟨_, rfl⟩
  rw [← hH, ← hL] at e ⊢
  rw [← hH] at h0 h1
  rw [← hL] at l0 l1
  clear hH hL
  have ea : U a = if a < 0 then a + 18446744073709551616 else a := by rw [U_mod]; split <;> omega
  have eb : U b = if b < 0 then b + 18446744073709551616 else b := by rw [U_mod]; split <;> omega
  rw [ea, eb] at e
  clear ea eb
  simp only [Option.bind_some]
  by_cases c1 : a < 0
  · by_cases c2 : b < 0
    · rw [if_pos c1, if_pos c2, Int.add_mul, Int.mul_add, Int.mul_add] at e
      rw [if_pos c1, if_pos c2]
      obtain ⟨P, hP⟩ : ∃ z, z = a * b := ⟨_, rfl⟩
      rw [← hP] at e pb ⊢
      refine ⟨_, _, rfl, ?_, ?_, ?_⟩ <;> simp only [In64, InU, w64_mod] <;> omega
    · rw [if_pos c1, if_neg c2, Int.add_mul] at e
      rw [if_pos c1, if_neg c2]
      obtain ⟨P, hP⟩ : ∃ z, z = a * b := ⟨_, rfl⟩
      rw [← hP] at e pb ⊢
      refine ⟨_, _, rfl, ?_, ?_, ?_⟩ <;> simp only [In64, InU, w64_mod] <;> omega
  · by_cases c2 : b < 0
    · rw [if_neg c1, if_pos c2, Int.mul_add] at e
      rw [if_neg c1, if_pos c2]
      obtain ⟨P, hP⟩ : ∃ z, z = a * b := ⟨_, rfl⟩
      rw [← hP] at e pb ⊢
      refine ⟨_, _, rfl, ?_, ?_, ?_⟩ <;> simp only [In64, InU, w64_mod] <;> omega
    · rw [if_neg c1, if_neg c2] at e
      rw [if_neg c1, if_neg c2]
      obtain ⟨P, hP⟩ : ∃ z, z = a * b := ⟨_, rfl⟩
      rw [← hP] at e pb ⊢
      refine ⟨_, _, rfl, ?_, ?_, ?_⟩ <;> simp only [In64, InU, w64_mod] <;> omega

abbrev OV := S25
def fam (k : Int) : Int := if k = 3 then 2 else k
def plc (v : OV) : Int := if v.f0.f0 = 3 then mn (mx v.f0.f1 0) 18 else 0
theorem plc_bd (v : OV) : 0 ≤ plc v ∧ plc v ≤ 18 := by
  unfold plc mn mx
  split
  · split <;> split <;> omega
  · omega
/-- a number in units of 18 digits behind the point -/
def num18 (v : OV) : Int := v.f2 * p10 (18 - plc v)
def inner (f : Int) (a b : OV) : Int := if f = 4 then cmpS a.f3.toList b.f3.toList else if f = 2 then cmp3 (num18 a) (num18 b) else if 1 ≤ f ∧ f ≤ 5 then cmp3 a.f2 b.f2 else 0
theorem inner_ok (f : Int) : Cmp (inner f) := by
  by_cases h4 : f = 4
  · have e : inner f = fun a b => cmpS ((fun v : OV => v.f3.toList) a) ((fun v : OV => v.f3.toList) b) := by funext a b; unfold inner; rw [if_pos h4]
    rw [e]; exact Cmp.of cmpS_ok (fun v : OV => v.f3.toList)
  · by_cases h2 : f = 2
    · have e : inner f = fun a b => cmp3 (num18 a) (num18 b) := by funext a b; unfold inner; rw [if_neg h4, if_pos h2]
      rw [e]; exact Cmp.of cmp3_ok num18
    · by_cases h5 : 1 ≤ f ∧ f ≤ 5
      · have e : inner f = fun a b => cmp3 ((fun v : OV => v.f2) a) ((fun v : OV => v.f2) b) := by funext a b; unfold inner; rw [if_neg h4, if_neg h2, if_pos h5]
        rw [e]; exact Cmp.of cmp3_ok (fun v : OV => v.f2)
      · have e : inner f = fun _ _ => 0 := by funext a b; unfold inner; rw [if_neg h4, if_neg h2, if_neg h5]
        rw [e]; exact Cmp.none
/-- the order of values that are there -/
def there (a b : OV) : Int := if fam a.f0.f0 < fam b.f0.f0 then -1 else if fam a.f0.f0 > fam b.f0.f0 then 1 else inner (fam a.f0.f0) a b
theorem there_ok : Cmp there := Cmp.then (f := fun v : OV => fam v.f0.f0) inner_ok
def nul (v : OV) : Int := if v.f1 = true then 0 else 1
def ord (a b : OV) : Int := if nul a < nul b then -1 else if nul a > nul b then 1 else if nul a = 1 then there a b else 0
theorem ord_ok : Cmp ord := by
  have h := Cmp.then (α := OV) (f := nul) (c := fun n => if n = 1 then there else fun _ _ => 0) (fun n => by
    by_cases hn : n = 1
    · simp only [if_pos hn]; exact there_ok
    · simp only [if_neg hn]; exact Cmp.none)
  have e : ord = fun a b => if nul a < nul b then -1 else if nul a > nul b then 1 else (if nul a = 1 then there else fun _ _ => 0) a b := by
    funext a b
    unfold ord
    split
    · rfl
    · split
      · rfl
      · split <;> rfl
  rw [e]; exact h
theorem p10_add (i j : Int) (hi : 0 ≤ i) (hj : 0 ≤ j) : p10 (i + j) = p10 i * p10 j := by
  unfold p10
  rw [Int.toNat_add hi hj, Int.pow_add]
theorem WideCmp_is {h l h' l' : Int} (hl : InU l) (hl' : InU l') : num_WideCmp.f h l h' l' = some (cmp3 (h * 18446744073709551616 + l) (h' * 18446744073709551616 + l')) := by
  obtain ⟨a1, a2⟩ := hl
  obtain ⟨b1, b2⟩ := hl'
  unfold num_WideCmp.f cmp3
  by_cases e : h = h' ∧ l = l'
  · obtain ⟨rfl, rfl⟩ := e
    rw [if_pos (by simp), if_neg (by omega), if_neg (by omega)]
  · rw [if_neg (by simp only [Bool.and_eq_true, beq_iff_eq]; exact e)]
    by_cases c1 : h < h'
    · rw [if_pos c1, if_pos (by omega)]
    · rw [if_neg c1]
      by_cases c2 : h = h'
      · subst c2
        rw [if_pos rfl]
        by_cases c3 : l < l'
        · rw [if_pos c3, if_pos (by omega)]
        · have : l ≠ l' := fun z => e ⟨rfl, z⟩
          rw [if_neg c3, if_neg (by omega), if_pos (by omega)]
      · rw [if_neg c2, if_neg (by omega), if_pos (by omega)]
theorem places_is (v : OV) : value_places.f v.f0.f0 v.f0.f1 v.f1 v.f2 v.f3 = some (plc v) := by
  unfold value_places.f plc
  split <;> rfl
theorem powN_loop (n : Int) (hn : n ≤ 18) : ∀ (d k : Nat) (i : Int), 0 ≤ i → i + d = n → d < k → num_Pow10.l0 k (p10 i) n i = some (p10 n, 0) := by
  intro d
  induction d with
  | zero =>
    intro k i h0 hi hk
    obtain ⟨k, rfl⟩ : ∃ j, k = j + 1 := ⟨k - 1, by omega⟩
    obtain rfl : i = n := by omega
    simp only [num_Pow10.l0]
    simp
  | succ d ih =>
    intro k i h0 hi hk
    obtain ⟨k, rfl⟩ : ∃ j, k = j + 1 := ⟨k - 1, by omega⟩
    have hb := p10_bd (n := i + 1) (by omega) (by omega)
    have hs := p10_succ h0
    have a := ih k (i + 1) (by omega) (by omega) (by omega)
    simp only [num_Pow10.l0]
    have hlt : i < n := by omega
    rw [if_pos hlt]
    have w1 : wrap64 (p10 i * 10) = p10 (i + 1) := by rw [w64_mod]; omega
    have w2 : wrap64 (i + 1) = i + 1 := by rw [w64_mod]; omega
    rw [w1, w2]
    exact a
theorem PowN_is (k : Nat) (hk : 30 ≤ k) (n : Int) (h0 : 0 ≤ n) (h1 : n ≤ 18) : num_Pow10.f k n = some (p10 n, 0) := by
  unfold num_Pow10.f
  rw [scale_is, decide_eq_true ⟨h0, h1⟩]
  simp only [Option.bind_some, if_true]
  have a := powN_loop n h1 n.toNat k 0 (by omega) (by omega) (by omega)
  rw [p10_0] at a
  exact a
theorem wide_is (k : Nat) (hk : 30 ≤ k) (v : OV) (hv : In64 v.f2) (m : Int) (h1 : plc v ≤ m) (h2 : m ≤ 18) : ∃ h l, value_wide.f k v.f0.f0 v.f0.f1 v.f1 v.f2 v.f3 m = some (h, l) ∧ InU l ∧ h * 18446744073709551616 + l = v.f2 * p10 (m - plc v) := by
  have hp := plc_bd v
  unfold value_wide.f
  have hb := p10_bd (n := m - plc v) (by omega) (by omega)
  obtain ⟨h, l, e1, _, e3, e4⟩ := WideMul_is hv (b := p10 (m - plc v)) ⟨by omega, by omega⟩
  rw [places_is, Option.bind_some, show wrap64 (m - plc v) = m - plc v from by rw [w64_mod]; omega, PowN_is k hk (m - plc v) (by omega) (by omega), Option.bind_some]
  simp only
  rw [e1]
  exact ⟨h, l, rfl, e3, e4⟩
theorem held_is (k : Nat) (hk : 31 ≤ k) (a b : OV) (ha : In64 a.f2) (hb : In64 b.f2) (h1 : 1 ≤ fam a.f0.f0) (h2 : fam a.f0.f0 ≤ 5) (he : fam a.f0.f0 = fam b.f0.f0) :
    value_held.f k a.f0.f0 a.f0.f1 a.f1 a.f2 a.f3 b.f0.f0 b.f0.f1 b.f1 b.f2 b.f3 = some (inner (fam a.f0.f0) a b) := by
  obtain ⟨j, rfl⟩ : ∃ q, k = q + 1 := ⟨k - 1, by omega⟩
  have hpa := plc_bd a
  have hpb := plc_bd b
  unfold value_held.f
  by_cases k4 : a.f0.f0 = 4
  · rw [if_pos k4, show fam a.f0.f0 = 4 from by unfold fam; rw [if_neg (by omega)]; exact k4]
    unfold value_three_string.f inner cmpS
    rw [if_pos rfl]
    split
    · rfl
    · split <;> rfl
  · rw [if_neg k4]
    have num : (a.f0.f0 = 2 ∨ a.f0.f0 = 3) → value_held.j0 (j + 1) true a.f0.f0 a.f0.f1 a.f1 a.f2 a.f3 b.f0.f0 b.f0.f1 b.f1 b.f2 b.f3 = some (inner (fam a.f0.f0) a b) := by
      intro hk2
      have hf : fam a.f0.f0 = 2 := by unfold fam; split <;> omega
      rw [value_held.j0, if_pos rfl, places_is a, places_is b, Option.bind_some, Option.bind_some]
      obtain ⟨m, hm⟩ : ∃ m, mx (plc a) (plc b) = m := ⟨_, rfl⟩
      have hm1 : plc a ≤ m ∧ plc b ≤ m ∧ m ≤ 18 := by rw [← hm]; unfold mx; split <;> omega
      rw [hm]
      obtain ⟨h, l, e1, e2, e3⟩ := wide_is j (by omega) a ha m hm1.1 hm1.2.2
      obtain ⟨h', l', e1', e2', e3'⟩ := wide_is j (by omega) b hb m hm1.2.1 hm1.2.2
      rw [e1, e1', Option.bind_some, Option.bind_some]
      simp only
      rw [WideCmp_is e2 e2', e3, e3', hf]
      unfold inner
      rw [if_neg (by decide), if_pos rfl]
      have s := cmp3_scale (a.f2 * p10 (m - plc a)) (b.f2 * p10 (m - plc b)) (p10 (18 - m)) (by have := p10_bd (n := 18 - m) (by omega) (by omega); omega)
      rw [← s]
      unfold num18
      have q1 : p10 (18 - plc a) = p10 (m - plc a) * p10 (18 - m) := by rw [← p10_add _ _ (by omega) (by omega)]; congr 1; omega
      have q2 : p10 (18 - plc b) = p10 (m - plc b) * p10 (18 - m) := by rw [← p10_add _ _ (by omega) (by omega)]; congr 1; omega
      rw [q1, q2, Int.mul_assoc, Int.mul_assoc]
      rfl
    by_cases k2 : a.f0.f0 = 2
    · rw [if_pos k2]
      have := num (.inl k2)
      rw [show (a.f0.f0 == 2) = true from beq_iff_eq.2 k2]
      exact this
    · rw [if_neg k2]
      by_cases k3 : a.f0.f0 = 3
      · have := num (.inr k3)
        rw [show (a.f0.f0 == 3) = true from beq_iff_eq.2 k3]
        exact this
      · rw [show (a.f0.f0 == 3) = false from beq_eq_false_iff_ne.2 k3, value_held.j0, if_neg (by decide)]
        have hf : fam a.f0.f0 = a.f0.f0 := by unfold fam; rw [if_neg k3]
        rw [hf] at h1 h2 ⊢
        have e3 : value_three_int64.f a.f2 b.f2 = some (cmp3 a.f2 b.f2) := by
          unfold value_three_int64.f cmp3
          split
          · rfl
          · split <;> rfl
        have e4 : inner a.f0.f0 a b = cmp3 a.f2 b.f2 := by unfold inner; rw [if_neg k4, if_neg k2, if_pos ⟨h1, h2⟩]
        rw [e3, e4]
        rfl
theorem Alike_is (a b c d : Int) : value_Alike.f a b c d = some (decide (1 ≤ a ∧ a ≤ 5 ∧ fam a = fam c)) := by
  unfold value_Alike.f value_family.f
  by_cases h1 : a ≥ 1
  · rw [if_pos h1]
    by_cases h2 : a ≤ 5
    · rw [if_pos h2]
      have e : ∀ z : Int, (if z = 3 then some 2 else some z) = some (fam z) := fun z => by unfold fam; split <;> rfl
      rw [e a, e c, Option.bind_some, Option.bind_some]
      congr 1
      rw [Bool.eq_iff_iff, beq_iff_eq, decide_eq_true_eq]
      exact ⟨fun h => ⟨h1, h2, h⟩, fun h => h.2.2⟩
    · rw [if_neg h2, decide_eq_false (by omega)]
  · rw [if_neg h1, decide_eq_false (by omega)]
theorem fam_bd {a : Int} (h1 : 1 ≤ a) (h2 : a ≤ 5) : 1 ≤ fam a ∧ fam a ≤ 5 := by unfold fam; split <;> omega
theorem fam_no {a : Int} (h : ¬ (1 ≤ a ∧ a ≤ 5)) : fam a = a := by unfold fam; rw [if_neg (by omega)]
theorem Order_is (k : Nat) (hk : 40 ≤ k) (a b : OV) (ha : In64 a.f2) (hb : In64 b.f2) : value_Order.f k a.f0.f0 a.f0.f1 a.f1 a.f2 a.f3 b.f0.f0 b.f0.f1 b.f1 b.f2 b.f3 = some (ord a b) := by
  obtain ⟨j, rfl⟩ : ∃ q, k = q + 1 := ⟨k - 1, by omega⟩
  unfold value_Order.f ord
  by_cases n1 : a.f1 = true
  · have ea : nul a = 0 := if_pos n1
    rw [if_pos n1, value_Order.j0, ea]
    by_cases n2 : b.f1 = true
    · have eb : nul b = 0 := if_pos n2
      rw [if_pos n2, eb, if_neg (by omega), if_neg (by omega), if_neg (by omega)]
    · have eb : nul b = 1 := if_neg n2
      rw [if_neg n2, if_pos n1, eb, if_pos (by omega)]
  · have ea : nul a = 1 := if_neg n1
    rw [if_neg n1, value_Order.j0, if_neg (by decide), if_neg n1, ea]
    by_cases n2 : b.f1 = true
    · have eb : nul b = 0 := if_pos n2
      rw [if_pos n2, eb, if_neg (by omega), if_pos (by omega)]
    · have eb : nul b = 1 := if_neg n2
      rw [if_neg n2, eb, if_neg (by omega), if_neg (by omega), if_pos rfl, Alike_is, Option.bind_some]
      unfold there
      by_cases al : 1 ≤ a.f0.f0 ∧ a.f0.f0 ≤ 5 ∧ fam a.f0.f0 = fam b.f0.f0
      · obtain ⟨f1, f2⟩ := fam_bd al.1 al.2.1
        have ef := al.2.2
        rw [if_pos (decide_eq_true al), held_is j (by omega) a b ha hb f1 f2 al.2.2, if_neg (by omega), if_neg (by omega)]
        rfl
      · rw [if_neg (by simpa using al)]
        unfold value_family.f value_three_int.f
        have e : ∀ z : Int, (if z = 3 then some 2 else some z) = some (fam z) := fun z => by unfold fam; split <;> rfl
        rw [e, e, Option.bind_some, Option.bind_some]
        by_cases g1 : fam a.f0.f0 < fam b.f0.f0
        · rw [if_pos g1, if_pos g1]; rfl
        · rw [if_neg g1, if_neg g1]
          by_cases g2 : fam a.f0.f0 > fam b.f0.f0
          · rw [if_pos g2, if_pos g2]; rfl
          · rw [if_neg g2, if_neg g2]
            have ef : fam a.f0.f0 = fam b.f0.f0 := by omega
            have hn : ¬ (1 ≤ a.f0.f0 ∧ a.f0.f0 ≤ 5) := fun h => al ⟨h.1, h.2, ef⟩
            have := fam_no hn
            unfold inner
            rw [if_neg (by omega), if_neg (by omega), if_neg (by omega)]
            rfl
end Go.Proofs.YtjpgjggbanpegaaDoor.Pure
