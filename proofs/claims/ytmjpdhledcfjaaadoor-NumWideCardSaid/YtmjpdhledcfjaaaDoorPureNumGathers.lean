/- NumGathers: what the printed law computes is true, for every list of whole numbers of 64 bits that a slice can hold. -/
import Derived.Test.YtmjpdhledcfjaaaDoorPureMul
import Derived.Test.YtmjpdhledcfjaaaDoorPureBeg01
import Derived.Lib.Hide
import Derived.Test.YtmjpdhledcfjaaaDoorR2
import Derived.Test.YtmjpdhledcfjaaaDoorR5
import Derived.Test.YtmjpdhledcfjaaaDoorR6
namespace Go.Proofs.YtmjpdhledcfjaaaDoor.Pure
open Go.RowKit Go.Proofs.YtmjpdhledcfjaaaDoor.R Go.Proofs.YtmjpdhledcfjaaaDoorW.PrintWords Go.Proofs.YtmjpdhledcfjaaaDoorW.PrintLast

def wv (h l : Int) : Int := h * 18446744073709551616 + l
def tot : List Int → Int
  | [] => 0
  | x :: r => x + tot r
theorem tot_append : ∀ a b : List Int, tot (a ++ b) = tot a + tot b
  | [], b => by simp [tot]
  | x :: r, b => by simp only [List.cons_append, tot, tot_append r b]; omega
theorem tot_bd (L : List Int) (h : ∀ x ∈ L, In64 x) : -9223372036854775808 * (L.length : Int) ≤ tot L ∧ tot L ≤ 9223372036854775808 * (L.length : Int) := by
  induction L with
  | nil => simp [tot]
  | cons x r ih =>
    have h1 := ih fun y hy => h y (List.mem_cons_of_mem _ hy)
    have h2 : In64 x := h x List.mem_cons_self
    obtain ⟨h2, h3⟩ := h2
    simp only [tot, List.length_cons]
    omega
theorem rd_at (L : List Int) (i : Nat) (h : i < L.length) : rd L (i : Int) = L[i] := by
  simp [rd, h]

theorem Add_ok {a b : Int} (ha : In64 a) (hb : In64 b) : (In64 (a + b) → num_Add.f a b = some (a + b, 0)) ∧ (¬ In64 (a + b) → num_Add.f a b = some (0, 10)) := by
  obtain ⟨a1, a2⟩ := ha
  obtain ⟨b1, b2⟩ := hb
  unfold num_Add.f In64
  simp only [w64_mod, beq_iff_eq, decide_eq_decide, gt_iff_lt]
  refine ⟨fun c => ?_, fun c => ?_⟩
  · rw [if_pos (by omega)]; congr 2; omega
  · rw [if_neg (by omega)]

theorem WideOf_is {n : Int} (hn : In64 n) : ∃ h l, num_WideOf.f n = some (h, l) ∧ In64 h ∧ InU l ∧ wv h l = n := by
  obtain ⟨h1, h2⟩ := hn
  unfold num_WideOf.f wv In64 InU
  refine ⟨_, _, rfl, ?_, ?_, ?_⟩ <;> (try simp only [IntKind.wrap_u64]) <;> omega

theorem add_step (k : Nat) (xs : List S31) (n i H Lo : Int) (x : S31) (h0 : 0 ≤ i) (h1 : i < n) (h2 : i < (xs.length : Int)) (hx : rd_T31 xs i = x) :
    num_WideAdd.l0 (k + 1) xs n i H Lo = num_WideAdd.l0 k xs n (wrap64 (i + 1)) (if IntKind.u64.wrap (Lo + x.f1) < x.f1 then wrap64 (wrap64 (H + x.f0) + 1) else wrap64 (H + x.f0)) (IntKind.u64.wrap (Lo + x.f1)) := by
  simp only [num_WideAdd.l0]
  rw [if_pos h1, if_pos h0, if_pos h2, hx]
  split <;> rfl
theorem add_end (k : Nat) (xs : List S31) (n H Lo : Int) : num_WideAdd.l0 (k + 1) xs n n H Lo = some (H, Lo) := by
  simp only [num_WideAdd.l0]
  rw [if_neg (by omega)]
theorem wideAdd2 (k : Nat) (hk : 5 ≤ k) (h1 l1 h2 l2 : Int) (a1 : In64 h1) (b1 : InU l1) (a2 : In64 h2) (b2 : InU l2) (bd : -170141183460469231731687303715884105728 ≤ wv h1 l1 + wv h2 l2 ∧ wv h1 l1 + wv h2 l2 < 170141183460469231731687303715884105728) :
    ∃ h l, num_WideAdd.f k [(⟨h1, l1⟩ : S31), (⟨h2, l2⟩ : S31)] = some (h, l) ∧ In64 h ∧ InU l ∧ wv h l = wv h1 l1 + wv h2 l2 := by
  obtain ⟨k, rfl⟩ : ∃ j, k = j + 1 + 1 + 1 := ⟨k - 3, by omega⟩
  obtain ⟨a11, a12⟩ := a1
  obtain ⟨b11, b12⟩ := b1
  obtain ⟨a21, a22⟩ := a2
  obtain ⟨b21, b22⟩ := b2
  unfold wv at *
  have e1 : wrap64 (0 + h1) = h1 := by rw [w64_mod]; omega
  have e2 : IntKind.u64.wrap (0 + l1) = l1 := by rw [IntKind.wrap_u64]; omega
  have e3 : wrap64 (0 + 1) = 1 := by rw [w64_mod]; omega
  have e4 : wrap64 (1 + 1) = 2 := by rw [w64_mod]; omega
  have s1 := add_step (k + 1 + 1) [(⟨h1, l1⟩ : S31), (⟨h2, l2⟩ : S31)] 2 0 0 0 ⟨h1, l1⟩ (by omega) (by omega) (by simp) rfl
  have s2 := add_step (k + 1) [(⟨h1, l1⟩ : S31), (⟨h2, l2⟩ : S31)] 2 1 h1 l1 ⟨h2, l2⟩ (by omega) (by omega) (by simp) rfl
  simp only at s1 s2
  rw [e2, e1, e3, if_neg (by omega)] at s1
  rw [e4] at s2
  unfold num_WideAdd.f
  rw [show ((([(⟨h1, l1⟩ : S31), (⟨h2, l2⟩ : S31)] : List S31).length : Nat) : Int) = 2 from rfl, s1, s2, add_end]
  clear s1 s2 e1 e2 e3 e4
  by_cases c : IntKind.u64.wrap (l1 + l2) < l2
  · rw [if_pos c]
    rw [IntKind.wrap_u64] at c
    refine ⟨_, _, rfl, ?_, ?_, ?_⟩ <;> simp only [In64, InU, w64_mod, IntKind.wrap_u64] <;> omega
  · rw [if_neg c]
    rw [IntKind.wrap_u64] at c
    refine ⟨_, _, rfl, ?_, ?_, ?_⟩ <;> simp only [In64, InU, w64_mod, IntKind.wrap_u64] <;> omega
theorem bdsum (n : Nat) (t : Int) (hn : n ≤ 17592186043904) (h : -9223372036854775808 * (n : Int) ≤ t ∧ t ≤ 9223372036854775808 * (n : Int)) : -170141183460469231731687303715884105728 ≤ t ∧ t < 170141183460469231731687303715884105728 := by omega
theorem idx_last (n i d : Nat) (h : i + (d + 1) = n) (hn : n ≤ 17592186043904) : wrap64 (wrap64 ((n : Int) - 1) - (i : Int)) = (d : Int) := by
  have : wrap64 ((n : Int) - 1) = (n : Int) - 1 := by rw [w64_mod]; omega
  rw [this, w64_mod]; omega
theorem idx_next (i n : Nat) (h : i < n) (hn : n ≤ 17592186043904) : wrap64 ((i : Int) + 1) = ((i + 1 : Nat) : Int) := by rw [w64_mod]; omega

theorem tot_take_succ (L : List Int) (i : Nat) (h : i < L.length) : tot (L.take (i + 1)) = tot (L.take i) + L[i] := by
  rw [List.take_succ_eq_append_getElem h, tot_append]; simp [tot]
theorem tot_drop (L : List Int) (i : Nat) (h : i < L.length) : tot (L.drop i) = L[i] + tot (L.drop (i + 1)) := by
  rw [List.drop_eq_getElem_cons h]; rfl
theorem tot_take_drop (L : List Int) (i : Nat) : tot (L.take i) + tot (L.drop i) = tot L := by
  rw [← tot_append, List.take_append_drop]
theorem bd_take (L : List Int) (hL : ∀ x ∈ L, In64 x) (i : Nat) : -9223372036854775808 * (L.length : Int) ≤ tot (L.take i) ∧ tot (L.take i) ≤ 9223372036854775808 * (L.length : Int) := by
  have := tot_bd (L.take i) fun x hx => hL x (List.mem_of_mem_take hx)
  rw [List.length_take] at this
  omega
theorem bd_drop (L : List Int) (hL : ∀ x ∈ L, In64 x) (i : Nat) : -9223372036854775808 * (L.length : Int) ≤ tot (L.drop i) ∧ tot (L.drop i) ≤ 9223372036854775808 * (L.length : Int) := by
  have := tot_bd (L.drop i) fun x hx => hL x (List.mem_of_mem_drop hx)
  have : (L.drop i).length ≤ L.length := by rw [List.length_drop]; omega
  omega

/-- the first loop: the sum from both ends -/
theorem gath0 (L : List Int) (hL : ∀ x ∈ L, In64 x) (hn : L.length ≤ 17592186043904) : ∀ (d k i : Nat) (h l h' l' : Int), i + d = L.length → d + 20 < k → In64 h → InU l → In64 h' → InU l' → wv h l = tot (L.take i) → wv h' l' = tot (L.drop d) →
    ∃ k' h2 l2, k ≤ k' + d + 1 ∧ In64 h2 ∧ InU l2 ∧ wv h2 l2 = tot L ∧ colonnadelaw01_NumGathers.l0 k L L (L.length : Int) (i : Int) h l h' l' = colonnadelaw01_NumGathers.l1 k' [] [] L (L.length : Int) 0 h2 l2 := by
  intro d
  induction d with
  | zero =>
    intro k i h l h' l' hi hk a b a' b' e e'
    obtain ⟨k, rfl⟩ : ∃ j, k = j + 1 := ⟨k - 1, by omega⟩
    obtain rfl : i = L.length := by omega
    rw [List.take_length] at e
    rw [List.drop_zero] at e'
    refine ⟨k, h, l, by omega, a, b, e, ?_⟩
    obtain ⟨b1, b2⟩ := b
    obtain ⟨b1', b2'⟩ := b'
    unfold wv at e e'
    have q1 : h = h' := by omega
    have q2 : l = l' := by omega
    subst q1 q2
    simp only [colonnadelaw01_NumGathers.l0]
    rw [if_neg (by omega), if_neg (by simp)]
  | succ d ih =>
    intro k i h l h' l' hi hk a b a' b' e e'
    obtain ⟨k, rfl⟩ : ∃ j, k = j + 1 := ⟨k - 1, by omega⟩
    have hlt : i < L.length := by omega
    have hlt2 : d < L.length := by omega
    obtain ⟨h1, l1, w1, a1, b1, e1⟩ := WideOf_is (hL L[i] (List.getElem_mem hlt))
    obtain ⟨h3, l3, w3, a3, b3, e3⟩ := WideOf_is (hL L[d] (List.getElem_mem hlt2))
    have t1 := tot_take_succ L i hlt
    have t2 := tot_drop L d hlt2
    have bt1 := bd_take L hL (i + 1)
    have bt2 := bd_drop L hL d
    have g1 := bdsum L.length _ hn bt1
    have g2 := bdsum L.length _ hn bt2
    have x1 : wv h l + wv h1 l1 = tot (L.take (i + 1)) := by rw [e, e1, t1]
    have x2 : wv h3 l3 + wv h' l' = tot (L.drop d) := by rw [e', e3, t2]
    rw [← x1] at g1
    rw [← x2] at g2
    clear bt1 bt2 t1 t2
    obtain ⟨h4, l4, w4, a4, b4, e4⟩ := wideAdd2 k (by omega) h l h1 l1 a b a1 b1 g1
    obtain ⟨h5, l5, w5, a5, b5, e5⟩ := wideAdd2 k (by omega) h3 l3 h' l' a3 b3 a' b' g2
    obtain ⟨k', h2, l2, c1, c2, c3, c4, c5⟩ := ih k (i + 1) h4 l4 h5 l5 (by omega) (by omega) a4 b4 a5 b5 (e4.trans x1) (e5.trans x2)
    refine ⟨k', h2, l2, by clear g1 g2 x1 x2 e4 e5; omega, c2, c3, c4, ?_⟩
    rw [← c5]
    simp only [colonnadelaw01_NumGathers.l0]
    have p1 : (i : Int) < (L.length : Int) := by omega
    have p2 : (0 : Int) ≤ (i : Int) := by omega
    have p3 : (d : Int) < (L.length : Int) := by omega
    have p4 : (0 : Int) ≤ (d : Int) := by omega
    rw [if_pos p1, if_pos p2, if_pos p1, idx_last L.length i d hi hn, idx_next i L.length hlt hn, rd_at L i hlt, rd_at L d hlt2, w1]
    simp only [Option.bind_some]
    rw [w4]
    simp only [Option.bind_some]
    rw [if_pos p4, if_pos p3, w3]
    simp only [Option.bind_some]
    rw [w5]
    rfl

theorem lenA (A B : List Int) (x : Int) (i : Nat) (h : A.length + B.length = i) : (A ++ [x]).length + B.length = i + 1 := by simp; omega
theorem lenB (A B : List Int) (x : Int) (i : Nat) (h : A.length + B.length = i) : A.length + (B ++ [x]).length = i + 1 := by simp; omega
theorem totA (A B : List Int) (x y z : Int) (h : tot A + tot B = y) (hz : z = y + x) : tot (A ++ [x]) + tot B = z := by rw [tot_append]; simp only [tot]; omega
theorem totB (A B : List Int) (x y z : Int) (h : tot A + tot B = y) (hz : z = y + x) : tot A + tot (B ++ [x]) = z := by rw [tot_append]; simp only [tot]; omega
/-- the second loop: the negatives and the others -/
theorem gath1 (L : List Int) (hL : ∀ x ∈ L, In64 x) (hn : L.length ≤ 17592186043904) (h l : Int) : ∀ (d k i : Nat) (A B : List Int), i + d = L.length → d + 5 < k → A.length + B.length = i → (∀ x ∈ A, In64 x ∧ x < 0) → (∀ x ∈ B, In64 x ∧ 0 ≤ x) → tot A + tot B = tot (L.take i) →
    ∃ k' A' B', k ≤ k' + d + 1 ∧ A'.length + B'.length = L.length ∧ (∀ x ∈ A', In64 x ∧ x < 0) ∧ (∀ x ∈ B', In64 x ∧ 0 ≤ x) ∧ tot A' + tot B' = tot L ∧ colonnadelaw01_NumGathers.l1 k A B L (L.length : Int) (i : Int) h l = colonnadelaw01_NumGathers.l2 k' A' B' 0 h l := by
  intro d
  induction d with
  | zero =>
    intro k i A B hi hk hc hA hB e
    obtain ⟨k, rfl⟩ : ∃ j, k = j + 1 := ⟨k - 1, by omega⟩
    obtain rfl : i = L.length := by omega
    rw [List.take_length] at e
    refine ⟨k, A, B, by omega, hc, hA, hB, e, ?_⟩
    simp only [colonnadelaw01_NumGathers.l1]
    rw [if_neg (by omega)]
  | succ d ih =>
    intro k i A B hi hk hc hA hB e
    obtain ⟨k, rfl⟩ : ∃ j, k = j + 1 := ⟨k - 1, by omega⟩
    have hlt : i < L.length := by clear hn; omega
    have q1 : i + 1 + d = L.length := by clear hn; omega
    have q2 : d + 5 < k := by clear hn; omega
    clear hi hk
    have hx := hL L[i] (List.getElem_mem hlt)
    have t1 := tot_take_succ L i hlt
    have n3 := idx_next i L.length hlt hn
    have p1 : (i : Int) < (L.length : Int) := Int.ofNat_lt.2 hlt
    have p2 : (0 : Int) ≤ (i : Int) := Int.natCast_nonneg i
    have pl : L.length < 17592186044416 := Nat.lt_of_le_of_lt hn (by decide)
    have p3 : A.length < 17592186044416 := Nat.lt_of_le_of_lt (Nat.le_trans (hc ▸ Nat.le_add_right A.length B.length) (Nat.le_of_lt hlt)) pl
    have p4 : B.length < 17592186044416 := Nat.lt_of_le_of_lt (Nat.le_trans (hc ▸ Nat.le_add_left B.length A.length) (Nat.le_of_lt hlt)) pl
    clear pl
    by_cases c : L[i] < 0
    · obtain ⟨k', A', B', c1, c2, c3, c4, c5, c6⟩ := ih k (i + 1) (A ++ [L[i]]) B q1 q2 (lenA A B _ i hc) (by
        intro x hx'
        rcases List.mem_append.1 hx' with g | g
        · exact hA x g
        · rw [List.mem_singleton.1 g]; exact ⟨hx, c⟩) hB (totA A B _ _ _ e t1)
      refine ⟨k', A', B', Nat.le_trans (Nat.succ_le_succ c1) (Nat.le_of_eq (by simp only [Nat.succ_eq_add_one]; omega)), c2, c3, c4, c5, ?_⟩
      rw [← c6]
      simp only [colonnadelaw01_NumGathers.l1]
      rw [if_pos p1, if_pos p2, if_pos p1, n3, rd_at L i hlt, if_pos c, if_pos p3]
    · obtain ⟨k', A', B', c1, c2, c3, c4, c5, c6⟩ := ih k (i + 1) A (B ++ [L[i]]) q1 q2 (lenB A B _ i hc) hA (by
        intro x hx'
        rcases List.mem_append.1 hx' with g | g
        · exact hB x g
        · rw [List.mem_singleton.1 g]; exact ⟨hx, Int.not_lt.1 c⟩) (totB A B _ _ _ e t1)
      refine ⟨k', A', B', Nat.le_trans (Nat.succ_le_succ c1) (Nat.le_of_eq (by simp only [Nat.succ_eq_add_one]; omega)), c2, c3, c4, c5, ?_⟩
      rw [← c6]
      simp only [colonnadelaw01_NumGathers.l1]
      rw [if_pos p1, if_pos p2, if_pos p1, n3, rd_at L i hlt, if_neg c, if_pos p4]

theorem tot_neg (A : List Int) (h : ∀ x ∈ A, In64 x ∧ x < 0) : tot A ≤ 0 := by
  induction A with
  | nil => simp [tot]
  | cons x r ih =>
    have := (h x List.mem_cons_self).2
    have := ih fun y hy => h y (List.mem_cons_of_mem _ hy)
    simp only [tot]; omega
theorem tot_pos (A : List Int) (h : ∀ x ∈ A, In64 x ∧ 0 ≤ x) : 0 ≤ tot A := by
  induction A with
  | nil => simp [tot]
  | cons x r ih =>
    have := (h x List.mem_cons_self).2
    have := ih fun y hy => h y (List.mem_cons_of_mem _ hy)
    simp only [tot]; omega

/-- the third loop: one behind the other -/
theorem gath2 (h l : Int) (hh : In64 h) (hl : InU l) : ∀ (d k : Nat) (A B : List Int) (s : Int), A.length + B.length = d → d ≤ 17592186043904 → 2 * d + 2 < k → In64 s → (∀ x ∈ A, In64 x ∧ x < 0) → (∀ x ∈ B, In64 x ∧ 0 ≤ x) → s + tot A + tot B = wv h l →
    colonnadelaw01_NumGathers.l2 k A B s h l = some true := by
  have hw := Narrow_is hh hl
  intro d
  induction d with
  | zero =>
    intro k A B s hd hb hk hs hA hB e
    obtain ⟨k, rfl⟩ : ∃ j, k = j + 1 := ⟨k - 1, by omega⟩
    have hA0 : A = [] := List.length_eq_zero_iff.1 (by omega)
    have hB0 : B = [] := List.length_eq_zero_iff.1 (by omega)
    subst hA0 hB0
    simp only [colonnadelaw01_NumGathers.l2]
    rw [if_neg (by rw [w64_mod]; decide)]
    simp only [tot] at e
    have e' : h * 18446744073709551616 + l = s := by unfold wv at e; omega
    rw [e'] at hw
    rw [hw.1 hs]
    simp
  | succ d ih =>
    intro k A B s hd hb hk hs hA hB e
    obtain ⟨k, rfl⟩ : ∃ j, k = j + 1 + 1 := ⟨k - 2, by omega⟩
    have w0 : wrap64 ((A.length : Int) + (B.length : Int)) = ((d + 1 : Nat) : Int) := by clear hw e; rw [w64_mod]; omega
    -- what follows behind the choice
    have takeA : ∀ a r, A = a :: r → (0 ≤ s ∨ B = []) → colonnadelaw01_NumGathers.j3 (k + 1) A B s true h l = some true := by
      intro a r hAr hc
      subst hAr
      have ha := hA a List.mem_cons_self
      have add := Add_ok hs ha.1
      have q1 : (0 : Int) < (((a :: r).length : Nat) : Int) := by simp only [List.length_cons]; omega
      have q2 : (1 : Int) ≤ (((a :: r).length : Nat) : Int) := by simp only [List.length_cons]; omega
      rw [show colonnadelaw01_NumGathers.j3 (k + 1) (a :: r) B s true h l = _ from by rw [colonnadelaw01_NumGathers.j3]]
      rw [if_pos rfl, if_pos q1, show rd (a :: r) 0 = a from rfl]
      by_cases c : In64 (s + a)
      · rw [add.1 c]
        simp only [Option.bind_some]
        rw [if_pos q2, if_pos trivial, show (a :: r).drop (1 : Int).toNat = r from rfl]
        refine ih k r B (s + a) (by simp only [List.length_cons] at hd; omega) (by omega) (by omega) c (fun x hx => hA x (List.mem_cons_of_mem _ hx)) hB ?_
        simp only [tot] at e; omega
      · rw [add.2 c]
        simp only [Option.bind_some]
        rw [if_pos q2, if_neg (by decide)]
        have hB0 : B = [] := by
          rcases hc with g | g
          · exfalso; obtain ⟨s1, s2⟩ := hs; obtain ⟨⟨q1, q2⟩, q3⟩ := ha; exact c ⟨by omega, by omega⟩
          · exact g
        subst hB0
        have hr := tot_neg r fun x hx => hA x (List.mem_cons_of_mem _ hx)
        have no : ¬ In64 (h * 18446744073709551616 + l) := by
          simp only [tot] at e
          unfold wv at e
          obtain ⟨s1, s2⟩ := hs; obtain ⟨⟨q1, q2⟩, q3⟩ := ha
          intro ⟨g1, g2⟩
          exact c ⟨by omega, by omega⟩
        rw [hw.2 no]
        rfl
    have takeB : ∀ b r, B = b :: r → (s < 0 ∨ A = []) → colonnadelaw01_NumGathers.j3 (k + 1) A B s false h l = some true := by
      intro b r hBr hc
      subst hBr
      have hb' := hB b List.mem_cons_self
      have add := Add_ok hs hb'.1
      have q1 : (0 : Int) < (((b :: r).length : Nat) : Int) := by simp only [List.length_cons]; omega
      have q2 : (1 : Int) ≤ (((b :: r).length : Nat) : Int) := by simp only [List.length_cons]; omega
      rw [show colonnadelaw01_NumGathers.j3 (k + 1) A (b :: r) s false h l = _ from by rw [colonnadelaw01_NumGathers.j3]]
      rw [if_neg (by simp), if_pos q1, show rd (b :: r) 0 = b from rfl]
      by_cases c : In64 (s + b)
      · rw [add.1 c]
        simp only [Option.bind_some]
        rw [if_pos q2, if_pos trivial, show (b :: r).drop (1 : Int).toNat = r from rfl]
        refine ih k A r (s + b) (by simp only [List.length_cons] at hd; omega) (by omega) (by omega) c hA (fun x hx => hB x (List.mem_cons_of_mem _ hx)) ?_
        simp only [tot] at e; omega
      · rw [add.2 c]
        simp only [Option.bind_some]
        rw [if_pos q2, if_neg (by decide)]
        have hA0 : A = [] := by
          rcases hc with g | g
          · exfalso; obtain ⟨s1, s2⟩ := hs; obtain ⟨⟨q1, q2⟩, q3⟩ := hb'; exact c ⟨by omega, by omega⟩
          · exact g
        subst hA0
        have hr := tot_pos r fun x hx => hB x (List.mem_cons_of_mem _ hx)
        have no : ¬ In64 (h * 18446744073709551616 + l) := by
          simp only [tot] at e
          unfold wv at e
          obtain ⟨s1, s2⟩ := hs; obtain ⟨⟨q1, q2⟩, q3⟩ := hb'
          intro ⟨g1, g2⟩
          exact c ⟨by omega, by omega⟩
        rw [hw.2 no]
        rfl
    rw [show colonnadelaw01_NumGathers.l2 (k + 1 + 1) A B s h l = _ from by rw [colonnadelaw01_NumGathers.l2]]
    rw [w0, if_pos (by clear hw e takeA takeB; omega)]
    by_cases c1 : s ≥ 0
    · rw [if_pos c1]
      cases A with
      | cons a r =>
        rw [if_pos (by simp only [List.length_cons]; omega)]
        exact takeA a r rfl (.inl c1)
      | nil =>
        rw [if_neg (by simp)]
        cases B with
        | nil => simp at hd
        | cons b r =>
          rw [show (((b :: r).length : Int) == 0) = false from by rw [beq_eq_false_iff_ne]; simp only [List.length_cons]; omega]
          exact takeB b r rfl (.inr rfl)
    · rw [if_neg c1]
      cases B with
      | nil =>
        cases A with
        | nil => simp at hd
        | cons a r => exact takeA a r rfl (.inr rfl)
      | cons b r =>
        rw [show (((b :: r).length : Int) == 0) = false from by rw [beq_eq_false_iff_ne]; simp only [List.length_cons]; omega]
        exact takeB b r rfl (.inl (by omega))

theorem NumGathers (L : List Int) (hG : L.length * 8 ≤ 140737488351232 ∧ ∀ x ∈ L, (Lit.int .i64 x).wf = true) : ∃ k, colonnadelaw01_NumGathers.f k L = some true := by
  obtain ⟨h2, h3⟩ := hG
  have hL : ∀ x ∈ L, In64 x := fun x hx => bounds_i64 (h3 x hx)
  refine ⟨4 * L.length + 100, ?_⟩
  unfold colonnadelaw01_NumGathers.f
  rw [begun01 _ (by omega)]
  simp only [Option.bind_some, if_true]
  have z : In64 0 := ⟨by omega, by omega⟩
  have zu : InU 0 := ⟨by omega, by omega⟩
  obtain ⟨k', h, l, c1, c2, c3, c4, c5⟩ := gath0 L hL (by omega) L.length (4 * L.length + 100) 0 0 0 0 0 (by omega) (by omega) z zu z zu (by simp [wv, tot]) (by simp [wv, tot])
  rw [show ((0 : Nat) : Int) = 0 from rfl] at c5
  rw [c5]
  obtain ⟨k2, A, B, d1, d2, d3, d4, d5, d6⟩ := gath1 L hL (by omega) h l L.length k' 0 [] [] (by omega) (by omega) rfl (fun x hx => by cases hx) (fun x hx => by cases hx) (by simp [tot])
  rw [show ((0 : Nat) : Int) = 0 from rfl] at d6
  rw [d6]
  exact gath2 h l c2 c3 L.length k2 A B 0 d2 (by omega) (by omega) z d3 d4 (by omega)
end Go.Proofs.YtmjpdhledcfjaaaDoor.Pure
