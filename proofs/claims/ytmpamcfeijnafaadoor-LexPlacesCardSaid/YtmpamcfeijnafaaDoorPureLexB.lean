/- What the printed lex.quoted and lex.one compute: the token ahead. -/
import Derived.Test.YtmpamcfeijnafaaDoorPureLexA
import Derived.Test.YtmpamcfeijnafaaDoorP2
namespace Go.Proofs.YtmpamcfeijnafaaDoor.Pure
open Go.RowKit Go.Proofs.YtmpamcfeijnafaaDoor.P Go.Proofs.YtmpamcfeijnafaaDoorW.PrintWords Go.Proofs.YtmpamcfeijnafaaDoorW.PrintLast Go.Proofs.YtmpamcfeijnafaaDoor.Str Go.Proofs.YtmpamcfeijnafaaDoor.Lex

theorem drop_cons {l : List UInt8} {i : Nat} {c : UInt8} {r : List UInt8} (e : l.drop i = c :: r) : i < l.length ∧ l.getD i 0 = c ∧ l.drop (i + 1) = r ∧ r.length = l.length - (i + 1) := by
  have h : i < l.length := by
    apply Nat.lt_of_not_le
    intro g
    rw [List.drop_of_length_le g] at e
    cases e
  rw [List.drop_eq_getElem_cons h, List.cons.injEq] at e
  refine ⟨h, ?_, e.2, ?_⟩
  · rw [List.getD_eq_getElem?_getD, List.getElem?_eq_getElem h, ← e.1]; rfl
  · rw [← e.2, List.length_drop]
theorem ch_B (l : List UInt8) (i : Nat) : lex_quoted.ch (B l) i = l.getD i 0 := by
  unfold lex_quoted.ch; rw [B_data]
theorem quoted_loop (l : List UInt8) : ∀ (d k i : Nat) (acc : List UInt8), l.length ≤ i + d → d < k → lex_quoted.l0 k (B l) i acc = match quo (l.drop i) with
    | none => (B [], 0)
    | some (t, n) => (B (acc ++ t), ((i + n : Nat) : Int)) := by
  intro d
  induction d using Nat.strongRecOn with
  | _ d ih =>
  intro k i acc h1 hk
  obtain ⟨k, rfl⟩ : ∃ q, k = q + 1 := ⟨k - 1, by omega⟩
  unfold lex_quoted.l0
  rw [B_size, ch_B, ch_B]
  cases e : l.drop i with
  | nil =>
    have : l.length ≤ i := List.drop_eq_nil_iff.1 e
    rw [if_neg (by omega)]
    rfl
  | cons c r =>
    obtain ⟨g1, g2, g3, g4⟩ := drop_cons e
    rw [if_pos g1, g2]
    cases r with
    | nil =>
      rw [List.length_nil] at g4
      by_cases hc : c = 39
      · rw [if_pos hc, if_neg (by intro h; omega)]
        simp only [quo, if_pos hc, List.append_nil]
        rfl
      · rw [if_neg hc, ih (d - 1) (by omega) k (i + 1) _ (by omega) (by omega), g3]
        simp only [quo, if_neg hc]
    | cons q r =>
      obtain ⟨f1, f2, f3, f4⟩ := drop_cons g3
      rw [f2]
      by_cases hc : c = 39
      · rw [if_pos hc]
        by_cases hq : q = 39
        · rw [if_pos ⟨f1, hq⟩, ih (d - 2) (by omega) k (i + 2) _ (by omega) (by omega), show i + 2 = i + 1 + 1 from rfl, f3]
          simp only [quo, if_pos hc, if_pos hq]
          cases quo r with
          | none => rfl
          | some x =>
            simp only [Option.map_some, List.append_assoc, List.singleton_append, Prod.mk.injEq, true_and]
            omega
        · rw [if_neg (fun h => hq h.2)]
          simp only [quo, if_pos hc, if_neg hq, List.append_nil]
          rfl
      · rw [if_neg hc, ih (d - 1) (by omega) k (i + 1) _ (by omega) (by omega), g3]
        simp only [quo, if_neg hc]
        cases quo (q :: r) with
        | none => rfl
        | some x =>
          simp only [Option.map_some, List.append_assoc, List.singleton_append, Prod.mk.injEq, true_and]
          omega
theorem quoted_B (c : UInt8) (r : List UInt8) (h : r.length ≤ 200000000) : lex_quoted.f (B (c :: r)) = some (match quo r with
    | none => (B [], 0)
    | some (t, n) => (B t, ((n + 1 : Nat) : Int))) := by
  unfold lex_quoted.f
  rw [if_pos (by rw [B_size, List.length_cons]; omega), quoted_loop (c :: r) r.length _ 1 [] (by rw [List.length_cons]; omega) (by rw [B_size, List.length_cons]; omega)]
  rw [List.drop_succ_cons, List.drop_zero]
  cases quo r with
  | none => rfl
  | some x => simp only [List.nil_append]; rw [Nat.add_comm 1]
theorem small_B (l : List UInt8) (h : l.length ≤ 200000000) : lex_small.f (B l) = some (B (l.map low)) := by
  unfold lex_small.f
  rw [if_pos (by rw [B_size]; omega), B_data]
  rfl
theorem run_take (p : UInt8 → Bool) (l : List UInt8) : l.take (run p l) = l.takeWhile p := by
  induction l with
  | nil => rfl
  | cons c r ih =>
    rw [run_cons, List.takeWhile_cons]
    by_cases h : p c = true
    · rw [if_pos h, if_pos h, Nat.add_comm 1, List.take_succ_cons, ih]
    · rw [if_neg h, if_neg h]; rfl
theorem tw_B (l : List UInt8) : lex_one.tw (B l) = isTwo l := by
  have e : ∀ a b : List UInt8, (B a == B b) = (a == b) := by
    intro a b
    show (a.toArray == b.toArray) = (a == b)
    simp
  unfold lex_one.tw isTwo
  rw [← e l [60, 61], ← e l [62, 61], ← e l [60, 62], ← e l [124, 124]]
  rfl
def oneV (l : List UInt8) : Int × ByteArray × Int × Int := match one l with
  | none => (0, B [], 0, 0)
  | some (kd, t, n) => (kd, B t, 0, (n : Int))
theorem one_B (k : Nat) (c : UInt8) (r : List UInt8) (h : r.length ≤ 100000000) (hk : r.length + 1 < k) : lex_one.f k (B (c :: r)) = some (oneV (c :: r)) := by
  have hL : ∀ x : UInt8, lex_is.f (x.toNat : Int) (B LET) = some (isL x) := fun x => is_B x LET
  have hD : ∀ x : UInt8, lex_is.f (x.toNat : Int) (B DIG) = some (isD x) := fun x => is_B x DIG
  have hS : ∀ x : UInt8, lex_is.f (x.toNat : Int) (B SGN) = some (isS x) := fun x => is_B x SGN
  have hW : lex_run.f k (B (c :: r)) (B (LET ++ DIG)) = some ((run isW (c :: r) : Nat) : Int) := run_B k (LET ++ DIG) (c :: r) (by rw [List.length_cons]; omega) (by rw [List.length_cons]; omega)
  have hN := number_B k (c :: r) (by rw [List.length_cons]; omega) (by rw [List.length_cons]; omega)
  have hb : bt (B (c :: r)) 0 = (c.toNat : Int) := bt_B (c :: r) 0
  have hx : ∀ n : Nat, (B (c :: r)).extract 0 n = B ((c :: r).take n) := fun n => by rw [B_extract, List.drop_zero]
  have hwl := run_le isW (c :: r)
  have hnl := numb_le (c :: r)
  have e0 : (⟨#[]⟩ : ByteArray) = B [] := rfl
  have eL : (⟨#[97, 98, 99, 100, 101, 102, 103, 104, 105, 106, 107, 108, 109, 110, 111, 112, 113, 114, 115, 116, 117, 118, 119, 120, 121, 122, 65, 66, 67, 68, 69, 70, 71, 72, 73, 74, 75, 76, 77, 78, 79, 80, 81, 82, 83, 84, 85, 86, 87, 88, 89, 90, 95]⟩ : ByteArray) = B LET := rfl
  have eW : (⟨#[97, 98, 99, 100, 101, 102, 103, 104, 105, 106, 107, 108, 109, 110, 111, 112, 113, 114, 115, 116, 117, 118, 119, 120, 121, 122, 65, 66, 67, 68, 69, 70, 71, 72, 73, 74, 75, 76, 77, 78, 79, 80, 81, 82, 83, 84, 85, 86, 87, 88, 89, 90, 95, 48, 49, 50, 51, 52, 53, 54, 55, 56, 57]⟩ : ByteArray) = B (LET ++ DIG) := rfl
  have eD : (⟨#[48, 49, 50, 51, 52, 53, 54, 55, 56, 57]⟩ : ByteArray) = B DIG := rfl
  have eS : (⟨#[40, 41, 44, 46, 59, 42, 43, 45, 47, 37, 61, 60, 62]⟩ : ByteArray) = B SGN := rfl
  have hsz : (B (c :: r)).size = r.length + 1 := by rw [B_size, List.length_cons]
  unfold lex_one.f oneV
  rw [if_pos (by rw [hsz]; omega), eL, eW, eD, eS, e0]
  rw [hb, hL, hW, hD, hS, hN, quoted_B c r (by omega)]
  simp only [Option.bind_some]
  rw [List.length_cons] at hwl hnl
  by_cases h1 : isL c = true
  · rw [if_pos h1, one_L h1]
    by_cases g : run isW (c :: r) ≤ 32
    · rw [if_pos (by omega), if_pos (by rw [hsz]; omega), Int.toNat_natCast, hx, run_take, small_B _ (by have := run_le isW (c :: r); unfold run at this; rw [List.length_cons] at this; omega), if_pos g]
      rfl
    · rw [if_neg (by omega), if_neg g]
  · rw [if_neg h1]
    by_cases h2 : isD c = true
    · rw [if_pos h2, one_D h1 h2, if_pos (by rw [hsz]; omega), Int.toNat_natCast, hx, bt_B, hL]
      by_cases g : numb (c :: r) ≤ 40
      · rw [if_pos (by omega)]
        by_cases g2 : numb (c :: r) = r.length + 1
        · rw [if_pos (by rw [hsz, g2]), if_pos ⟨g, by
            rw [List.getD_eq_getElem?_getD, List.getElem?_eq_none (by rw [List.length_cons]; omega)]; decide⟩]
        · rw [if_neg (by rw [hsz]; omega), Option.bind_some]
          by_cases g3 : isL ((c :: r).getD (numb (c :: r)) 0) = true
          · rw [if_pos g3, if_neg (by rw [g3]; intro h; exact absurd h.2 (by decide))]
          · rw [if_neg g3, if_pos ⟨g, by simpa using g3⟩]
      · rw [if_neg (by omega), if_neg (fun h => g h.1)]
    · rw [if_neg h2]
      by_cases h3 : c = 39
      · rw [if_pos (by rw [h3]; rfl), one_Q h1 h2 h3]
        cases quo r with
        | none => rfl
        | some x =>
          obtain ⟨t, n⟩ := x
          simp only
          rw [if_pos (by omega), B_size]
          by_cases g : t.length ≤ 256
          · rw [if_pos g, if_pos g]
          · rw [if_neg g, if_neg g]
      · rw [if_neg (by intro h; exact h3 (toNat_inj.1 h)), one_S h1 h2 h3, hsz, hx 2, tw_B, hx 1]
        unfold sg
        have hr : (1 < r.length + 1 ∧ isTwo ((c :: r).take 2) = true) ↔ (r ≠ [] ∧ isTwo ((c :: r).take 2) = true) := by
          cases r with
          | nil => simp
          | cons d r => simp
        by_cases g : 1 < r.length + 1 ∧ isTwo ((c :: r).take 2) = true
        · rw [if_pos g, if_pos (hr.1 g)]
          rfl
        · rw [if_neg g, if_neg (fun h => g (hr.2 h))]
          by_cases h4 : isS c = true
          · rw [if_pos h4, if_pos h4]
            rfl
          · rw [if_neg h4, if_neg h4]
theorem oneV_none {l : List UInt8} (h : one l = none) : oneV l = (0, B [], 0, 0) := by unfold oneV; rw [h]
theorem oneV_some {l : List UInt8} {kd : Int} {t : List UInt8} {n : Nat} (h : one l = some (kd, t, n)) : oneV l = (kd, B t, 0, (n : Int)) := by unfold oneV; rw [h]
end Go.Proofs.YtmpamcfeijnafaaDoor.Pure
