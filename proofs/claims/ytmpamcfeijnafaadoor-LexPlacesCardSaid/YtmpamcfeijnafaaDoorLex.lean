/- The tokens of a text, by definition on lists of bytes. No program. -/
import Derived.Test.YtmpamcfeijnafaaDoorStrB
namespace Go.Proofs.YtmpamcfeijnafaaDoor.Lex
open Go.RowKit Go.Proofs.YtmpamcfeijnafaaDoor.Str

def LET : List UInt8 := [97, 98, 99, 100, 101, 102, 103, 104, 105, 106, 107, 108, 109, 110, 111, 112, 113, 114, 115, 116, 117, 118, 119, 120, 121, 122, 65, 66, 67, 68, 69, 70, 71, 72, 73, 74, 75, 76, 77, 78, 79, 80, 81, 82, 83, 84, 85, 86, 87, 88, 89, 90, 95]
def DIG : List UInt8 := [48, 49, 50, 51, 52, 53, 54, 55, 56, 57]
def SGN : List UInt8 := [40, 41, 44, 46, 59, 42, 43, 45, 47, 37, 61, 60, 62]
def SPC : List UInt8 := [9, 10, 13, 32]
def isL (c : UInt8) : Bool := LET.contains c
def isD (c : UInt8) : Bool := DIG.contains c
def isS (c : UInt8) : Bool := SGN.contains c
def isP (c : UInt8) : Bool := SPC.contains c
def isW (c : UInt8) : Bool := (LET ++ DIG).contains c
def isTwo (l : List UInt8) : Bool := l == [60, 61] || l == [62, 61] || l == [60, 62] || l == [124, 124]
def low (c : UInt8) : UInt8 := if 65 ≤ c.toNat ∧ c.toNat ≤ 90 then c + 32 else c

/-- how many bytes of space stand ahead; true: within a remark -/
def sp : Bool → List UInt8 → Nat
  | _, [] => 0
  | true, c :: r => if c = 10 then 1 + sp false r else 1 + sp true r
  | false, c :: r => if isP c then 1 + sp false r else if c = 45 ∧ r.head? = some 45 then 1 + sp true r else 0
/-- how many bytes of a kind stand ahead -/
def run (p : UInt8 → Bool) (l : List UInt8) : Nat := (l.takeWhile p).length
/-- how many bytes a number has -/
def numb (l : List UInt8) : Nat :=
  let n := run isD l
  if l.getD n 0 = 46 ∧ isD (l.getD (n + 1) 0) = true then n + 1 + run isD (l.drop (n + 1)) else n
/-- a text behind its first mark: the bytes, and how many it takes; none: it does not end -/
def quo : List UInt8 → Option (List UInt8 × Nat)
  | [] => none
  | [c] => if c = 39 then some ([], 1) else none
  | c :: d :: r => if c = 39 then (if d = 39 then (quo r).map fun x => (39 :: x.1, x.2 + 2) else some ([], 1)) else (quo (d :: r)).map fun x => (c :: x.1, x.2 + 1)
/-- a sign ahead -/
def sg (c : UInt8) (r : List UInt8) : Option (Int × List UInt8 × Nat) := if r ≠ [] ∧ isTwo ((c :: r).take 2) = true then some (4, (c :: r).take 2, 2) else if isS c then some (4, [c], 1) else none
/-- the token ahead -/
def one : List UInt8 → Option (Int × List UInt8 × Nat)
  | [] => none
  | c :: r =>
    if isL c then (if run isW (c :: r) ≤ 32 then some (1, ((c :: r).takeWhile isW).map low, run isW (c :: r)) else none)
    else if isD c then (if numb (c :: r) ≤ 40 ∧ isL ((c :: r).getD (numb (c :: r)) 0) = false then some (2, (c :: r).take (numb (c :: r)), numb (c :: r)) else none)
    else if c = 39 then (match quo r with
      | none => none
      | some (t, n) => if t.length ≤ 256 then some (3, t, n + 1) else none)
    else sg c r
/-- the tokens, and where the first that is none begins -/
def toks : Nat → List UInt8 → Nat → List (Int × List UInt8 × Nat) × Option Nat
  | 0, _, _ => ([], none)
  | f + 1, m, i => if m = [] then ([], none) else match one m with
    | none => ([], some i)
    | some (kd, t, n) => ((kd, t, i) :: (toks f (m.drop (n + sp false (m.drop n))) (i + (n + sp false (m.drop n)))).1, (toks f (m.drop (n + sp false (m.drop n))) (i + (n + sp false (m.drop n)))).2)
def known (l : List UInt8) : List (Int × List UInt8 × Nat) × Option Nat := toks (l.length + 1) (l.drop (sp false l)) (sp false l)

theorem spf (c : UInt8) (r : List UInt8) : sp false (c :: r) = if isP c then 1 + sp false r else if c = 45 ∧ r.head? = some 45 then 1 + sp true r else 0 := by conv => lhs; unfold sp
theorem spt (c : UInt8) (r : List UInt8) : sp true (c :: r) = if c = 10 then 1 + sp false r else 1 + sp true r := by conv => lhs; unfold sp
theorem sp_le : ∀ (b : Bool) (l : List UInt8), sp b l ≤ l.length
  | _, [] => by simp [sp]
  | true, c :: r => by
    have := sp_le true r; have := sp_le false r
    unfold sp; split <;> simp only [List.length_cons] <;> omega
  | false, c :: r => by
    have := sp_le true r; have := sp_le false r
    unfold sp; split
    · simp only [List.length_cons]; omega
    · split <;> simp only [List.length_cons] <;> omega
theorem run_le (p : UInt8 → Bool) (l : List UInt8) : run p l ≤ l.length := by
  unfold run
  induction l with
  | nil => simp
  | cons c r ih => rw [List.takeWhile_cons]; split <;> simp only [List.length_cons, List.length_nil] <;> omega
theorem run_cons (p : UInt8 → Bool) (c : UInt8) (r : List UInt8) : run p (c :: r) = if p c then 1 + run p r else 0 := by
  unfold run; rw [List.takeWhile_cons]; split <;> simp [Nat.add_comm]
theorem getD_lt {l : List UInt8} {n : Nat} {c : UInt8} (h : l.getD n 0 = c) (hc : c ≠ 0) : n < l.length := by
  apply Nat.lt_of_not_le
  intro g
  rw [List.getD_eq_getElem?_getD, List.getElem?_eq_none g] at h
  exact hc h.symm
theorem numb_le (l : List UInt8) : numb l ≤ l.length := by
  unfold numb
  have h1 := run_le isD l
  have h2 := run_le isD (l.drop (run isD l + 1))
  simp only
  split
  · rename_i h
    have := getD_lt h.1 (by decide)
    rw [List.length_drop] at h2
    omega
  · exact h1
theorem quo_le : ∀ (l : List UInt8) (t : List UInt8) (n : Nat), quo l = some (t, n) → 1 ≤ n ∧ n ≤ l.length ∧ t.length < n
  | [], t, n, h => by simp [quo] at h
  | [c], t, n, h => by
    simp only [quo] at h
    split at h
    · cases h; simp
    · simp at h
  | c :: d :: r, t, n, h => by
    simp only [quo] at h
    split at h
    · split at h
      · cases e : quo r with
        | none => rw [e] at h; simp at h
        | some x =>
          rw [e] at h
          obtain ⟨x1, x2⟩ := x
          simp only [Option.map_some, Option.some.injEq, Prod.mk.injEq] at h
          obtain ⟨rfl, rfl⟩ := h
          have := quo_le r x1 x2 e
          simp only [List.length_cons]; omega
      · cases h; simp
    · cases e : quo (d :: r) with
      | none => rw [e] at h; simp at h
      | some x =>
        rw [e] at h
        obtain ⟨x1, x2⟩ := x
        simp only [Option.map_some, Option.some.injEq, Prod.mk.injEq] at h
        obtain ⟨rfl, rfl⟩ := h
        have := quo_le (d :: r) x1 x2 e
        simp only [List.length_cons] at this ⊢; omega
theorem one_le {l : List UInt8} {kd : Int} {t : List UInt8} {n : Nat} (h : one l = some (kd, t, n)) : 1 ≤ n ∧ n ≤ l.length := by
  cases l with
  | nil => simp [one] at h
  | cons c r =>
    simp only [one] at h
    split at h
    · rename_i g
      split at h
      · simp only [Option.some.injEq, Prod.mk.injEq] at h
        obtain ⟨_, _, rfl⟩ := h
        refine ⟨?_, run_le _ _⟩
        rw [run_cons, if_pos (by unfold isL at g; unfold isW; simp only [List.contains_eq_mem, List.mem_append, decide_eq_true_eq] at g ⊢; exact .inl g)]
        omega
      · simp at h
    · split at h
      · rename_i g
        split at h
        · simp only [Option.some.injEq, Prod.mk.injEq] at h
          obtain ⟨_, _, rfl⟩ := h
          refine ⟨?_, numb_le _⟩
          have : 1 ≤ run isD (c :: r) := by rw [run_cons, if_pos g]; omega
          unfold numb
          simp only
          split <;> omega
        · simp at h
      · split at h
        · split at h
          · simp at h
          · rename_i t' n' e
            split at h
            · simp only [Option.some.injEq, Prod.mk.injEq] at h
              obtain ⟨_, _, rfl⟩ := h
              have := quo_le _ _ _ e
              simp only [List.length_cons]; omega
            · simp at h
        · unfold sg at h
          split at h
          · rename_i g
            simp only [Option.some.injEq, Prod.mk.injEq] at h
            obtain ⟨_, _, rfl⟩ := h
            obtain ⟨g, _⟩ := g
            cases r with
            | nil => exact absurd rfl g
            | cons d r => simp
          · split at h
            · simp only [Option.some.injEq, Prod.mk.injEq] at h
              obtain ⟨_, _, rfl⟩ := h
              simp
            · simp at h
theorem one_L {c : UInt8} {r : List UInt8} (h : isL c = true) : one (c :: r) = if run isW (c :: r) ≤ 32 then some (1, ((c :: r).takeWhile isW).map low, run isW (c :: r)) else none := by
  unfold one; simp only; rw [if_pos h]
theorem one_D {c : UInt8} {r : List UInt8} (h : ¬ isL c = true) (g : isD c = true) : one (c :: r) = if numb (c :: r) ≤ 40 ∧ isL ((c :: r).getD (numb (c :: r)) 0) = false then some (2, (c :: r).take (numb (c :: r)), numb (c :: r)) else none := by
  unfold one; simp only; rw [if_neg h, if_pos g]
theorem one_Q {c : UInt8} {r : List UInt8} (h : ¬ isL c = true) (g : ¬ isD c = true) (q : c = 39) : one (c :: r) = match quo r with
      | none => none
      | some (t, n) => if t.length ≤ 256 then some (3, t, n + 1) else none := by
  unfold one; simp only; rw [if_neg h, if_neg g, if_pos q]
theorem one_S {c : UInt8} {r : List UInt8} (h : ¬ isL c = true) (g : ¬ isD c = true) (q : ¬ c = 39) : one (c :: r) = sg c r := by
  unfold one; simp only; rw [if_neg h, if_neg g, if_neg q]
theorem toks_nil (f i : Nat) : toks (f + 1) [] i = ([], none) := by unfold toks; rw [if_pos rfl]
theorem toks_none {c : UInt8} {r : List UInt8} (f i : Nat) (h : one (c :: r) = none) : toks (f + 1) (c :: r) i = ([], some i) := by
  unfold toks; rw [if_neg (by simp), h]
theorem toks_some {c : UInt8} {r : List UInt8} (f i : Nat) {kd : Int} {t : List UInt8} {n : Nat} (h : one (c :: r) = some (kd, t, n)) : toks (f + 1) (c :: r) i = ((kd, t, i) :: (toks f ((c :: r).drop (n + sp false ((c :: r).drop n))) (i + (n + sp false ((c :: r).drop n)))).1, (toks f ((c :: r).drop (n + sp false ((c :: r).drop n))) (i + (n + sp false ((c :: r).drop n)))).2) := by
  conv => lhs; unfold toks
  rw [if_neg (by simp), h]
end Go.Proofs.YtmpamcfeijnafaaDoor.Lex
