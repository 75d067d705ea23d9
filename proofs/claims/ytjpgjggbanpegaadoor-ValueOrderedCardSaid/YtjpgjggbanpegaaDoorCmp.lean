/- Comparisons that are orders: of whole numbers, of texts. No program. -/
import Derived.Test.YtjpgjggbanpegaaDoorAux
namespace Go.Proofs.YtjpgjggbanpegaaDoor.Str
/-- a comparison: it turns round with its arguments, and carries over -/
structure Cmp {α : Type} (c : α → α → Int) : Prop where
  turn : ∀ a b, c b a = - c a b
  over : ∀ a b d, c a b ≤ 0 → c b d ≤ 0 → c a d ≤ 0
theorem Cmp.self {α : Type} {c : α → α → Int} (h : Cmp c) (a : α) : c a a = 0 := by have := h.turn a a; omega
theorem Cmp.back {α : Type} {c : α → α → Int} (h : Cmp c) (a b d : α) (h1 : c a b ≥ 0) (h2 : c b d ≥ 0) : c a d ≥ 0 := by
  have t1 := h.turn a b
  have t2 := h.turn b d
  have t3 := h.turn a d
  have := h.over d b a (by omega) (by omega)
  omega
def cmp3 (x y : Int) : Int := if x < y then -1 else if x > y then 1 else 0
theorem cmp3_ok : Cmp cmp3 := by
  refine ⟨fun a b => ?_, fun a b d => ?_⟩
  · unfold cmp3
    rcases Int.lt_trichotomy a b with h | h | h
    · rw [if_neg (by omega), if_pos (by omega), if_pos h]; rfl
    · subst h; rw [if_neg (by omega), if_neg (by omega)]; rfl
    · rw [if_pos h, if_neg (by omega), if_pos h]
  · unfold cmp3
    intro h1 h2
    by_cases c1 : a > b
    · rw [if_neg (by omega), if_pos c1] at h1; omega
    · by_cases c2 : b > d
      · rw [if_neg (by omega), if_pos c2] at h2; omega
      · split
        · omega
        · rw [if_neg (by omega)]; omega
theorem cmp3_scale (x y c : Int) (hc : 0 < c) : cmp3 (x * c) (y * c) = cmp3 x y := by
  unfold cmp3
  have e1 : x * c < y * c ↔ x < y := ⟨fun h => Int.lt_of_mul_lt_mul_right h (Int.le_of_lt hc), fun h => Int.mul_lt_mul_of_pos_right h hc⟩
  have e2 : y * c < x * c ↔ y < x := ⟨fun h => Int.lt_of_mul_lt_mul_right h (Int.le_of_lt hc), fun h => Int.mul_lt_mul_of_pos_right h hc⟩
  simp only [e1, e2, GT.gt]
theorem less_irr : ∀ x : List UInt8, Go.Op.bytesLess x x = false
  | [] => rfl
  | a :: x => by
    have h : ¬ a < a := fun g => absurd (show a.toNat < a.toNat from g) (by omega)
    simp only [Go.Op.bytesLess]
    simp [h, less_irr x]
theorem less_cons (a b : UInt8) (x y : List UInt8) : Go.Op.bytesLess (a :: x) (b :: y) = true ↔ a.toNat < b.toNat ∨ (a = b ∧ Go.Op.bytesLess x y = true) := by
  simp only [Go.Op.bytesLess]
  rcases Nat.lt_trichotomy a.toNat b.toNat with h | h | h
  · have h1 : a < b := h
    simp [h1, h]
  · have e : a = b := UInt8.toNat_inj.mp h
    subst e
    have h2 : ¬ a < a := fun g => absurd (show a.toNat < a.toNat from g) (by omega)
    simp [h2]
  · have h1 : b < a := h
    have h2 : ¬ a < b := fun g => absurd (show a.toNat < b.toNat from g) (by omega)
    have h3 : ¬ a = b := fun e => by subst e; omega
    simp [h2, h3]
    omega
theorem less_trans : ∀ x y z : List UInt8, Go.Op.bytesLess x y = true → Go.Op.bytesLess y z = true → Go.Op.bytesLess x z = true
  | x, y, [], _, h => by cases y <;> simp [Go.Op.bytesLess] at h
  | [], _, c :: z, _, _ => by simp [Go.Op.bytesLess]
  | a :: x, [], c :: z, h, _ => by simp [Go.Op.bytesLess] at h
  | a :: x, b :: y, c :: z, h1, h2 => by
    rw [less_cons] at h1 h2 ⊢
    rcases h1 with h1 | ⟨rfl, h1⟩ <;> rcases h2 with h2 | ⟨rfl, h2⟩
    · exact .inl (by omega)
    · exact .inl h1
    · exact .inl h2
    · exact .inr ⟨rfl, less_trans x y z h1 h2⟩
theorem less_total (x y : List UInt8) (h1 : Go.Op.bytesLess x y = false) (h2 : Go.Op.bytesLess y x = false) : x = y := by
  have h := bytesLess_turn x y
  rw [h1, h2] at h
  simpa using h
def cmpS (x y : List UInt8) : Int := if Go.Op.bytesLess x y = true then -1 else if Go.Op.bytesLess y x = true then 1 else 0
theorem cmpS_ok : Cmp cmpS := by
  refine ⟨fun a b => ?_, fun a b d => ?_⟩
  · unfold cmpS
    cases h1 : Go.Op.bytesLess a b <;> cases h2 : Go.Op.bytesLess b a
    · rfl
    · rfl
    · rfl
    · have := less_trans a b a h1 h2
      rw [less_irr] at this; cases this
  · unfold cmpS
    intro h1 h2
    have g1 : Go.Op.bytesLess b a = false ∨ Go.Op.bytesLess a b = true := by
      cases e : Go.Op.bytesLess b a
      · exact .inl rfl
      · cases e2 : Go.Op.bytesLess a b
        · rw [e, e2] at h1; simp at h1
        · exact .inr rfl
    have g2 : Go.Op.bytesLess d b = false ∨ Go.Op.bytesLess b d = true := by
      cases e : Go.Op.bytesLess d b
      · exact .inl rfl
      · cases e2 : Go.Op.bytesLess b d
        · rw [e, e2] at h2; simp at h2
        · exact .inr rfl
    cases e : Go.Op.bytesLess a d with
    | true => simp
    | false =>
      cases e2 : Go.Op.bytesLess d a with
      | false => simp
      | true =>
        exfalso
        cases e3 : Go.Op.bytesLess a b with
        | true =>
          have := less_trans d a b e2 e3
          rcases g2 with g | g
          · rw [this] at g; cases g
          · have := less_trans a b d e3 g; rw [e] at this; cases this
        | false =>
          rcases g1 with g | g
          · have := less_total a b e3 g
            subst this
            rcases g2 with g | g
            · rw [e2] at g; cases g
            · rw [e] at g; cases g
          · rw [e3] at g; cases g
/-- one comparison behind another one -/
theorem Cmp.then {α : Type} {f : α → Int} {c : Int → α → α → Int} (h : ∀ n, Cmp (c n)) : Cmp (fun a b => if f a < f b then -1 else if f a > f b then 1 else c (f a) a b) := by
  refine ⟨fun a b => ?_, fun a b d => ?_⟩
  · rcases Int.lt_trichotomy (f a) (f b) with g | g | g
    · rw [if_neg (by omega), if_pos (by omega), if_pos g]; rfl
    · rw [if_neg (by omega), if_neg (by omega), if_neg (by omega), if_neg (by omega), g]
      exact (h (f b)).turn a b
    · rw [if_pos g, if_neg (by omega), if_pos g]
  · intro h1 h2
    by_cases c1 : f a > f b
    · rw [if_neg (by omega), if_pos c1] at h1; omega
    · by_cases c2 : f b > f d
      · rw [if_neg (by omega), if_pos c2] at h2; omega
      · by_cases c3 : f a < f d
        · rw [if_pos c3]; omega
        · have e1 : f a = f b := by omega
          have e2 : f b = f d := by omega
          rw [if_neg (by omega), if_neg (by omega)] at h1 h2 ⊢
          rw [e1] at h1 ⊢
          exact (h (f b)).over a b d h1 h2
theorem Cmp.of {α β : Type} {c : β → β → Int} (h : Cmp c) (f : α → β) : Cmp (fun a b => c (f a) (f b)) := ⟨fun a b => h.turn _ _, fun a b d => h.over _ _ _⟩
theorem Cmp.none {α : Type} : Cmp (fun _ _ : α => 0) := ⟨fun _ _ => rfl, fun _ _ _ _ _ => Int.le_refl _⟩
end Go.Proofs.YtjpgjggbanpegaaDoor.Str
