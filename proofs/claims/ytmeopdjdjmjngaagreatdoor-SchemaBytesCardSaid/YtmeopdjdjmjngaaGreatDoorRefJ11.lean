/- the reference's forms of bytes: what is read, and what is written at a text without a zero. -/
import Derived.Test.YtmeopdjdjmjngaaGreatDoorRefI11
import Derived.Test.YtmeopdjdjmjngaaGreatDoorI8
import Derived.Test.YtmeopdjdjmjngaaGreatDoorI9
set_option linter.unusedVariables false
set_option linter.unusedSimpArgs false
namespace Go.Proofs.YtmeopdjdjmjngaaGreatDoor.I
open Go.RowKit Go.Lib Go.Proofs.YtmeopdjdjmjngaaGreatDoorW.PrintWords Go.Proofs.YtmeopdjdjmjngaaGreatDoorW.PrintLast Go.Proofs.YtmeopdjdjmjngaaGreatDoorW.PrintMore Go.Proofs.YtmeopdjdjmjngaaGreatDoor.Cod
theorem rd_nat (xs : List Int) (i : Nat) : rd xs (i : Int) = xs.getD i 0 := rfl
theorem by_l0 (xs : List Int) (hz : ∀ i, i < xs.length → ¬ xs.getD i 0 = 0) (hl : xs.length ≤ 1000000) : ∀ (d k i : Nat) (acc : List Int), i + d = xs.length → acc.length = i → d < k → colonnaderef03_Bytes.l0 k xs acc (i : Int) = some (acc ++ xs.drop i ++ [0, 0]) := by
  intro d
  induction d with
  | zero =>
    intro k i acc hi ha hk
    obtain ⟨k, rfl⟩ : ∃ m, k = m + 1 := ⟨k - 1, by omega⟩
    rw [colonnaderef03_Bytes.l0, if_neg (by omega), Option.bind_some, if_pos (by simp; omega), List.drop_eq_nil_of_le (by omega), List.append_nil]
  | succ d ih =>
    intro k i acc hi ha hk
    obtain ⟨k, rfl⟩ : ∃ m, k = m + 1 := ⟨k - 1, by omega⟩
    have hlt : i < xs.length := by omega
    rw [colonnaderef03_Bytes.l0, if_pos (by omega), if_pos (by omega), if_pos (by omega), Option.bind_some, rd_nat, if_neg (hz i hlt), w64b _ (by omega) (by omega), show ((i : Int) + 1) = ((i + 1 : Nat) : Int) by omega]
    rw [ih k (i + 1) _ (by omega) (by simp; omega) (by omega), List.drop_eq_getElem_cons hlt, List.getD_eq_getElem?_getD, List.getElem?_eq_getElem hlt]
    simp
theorem sb_nz {s : ByteArray} (h : NoZ s) : ∀ i, i < (sb s).length → ¬ (sb s).getD i 0 = 0 := fun i hi e => by
  have hd : i < s.data.toList.length := by rw [sb_len] at hi; exact (by rw [Array.length_toList]; exact hi)
  rw [List.getD_eq_getElem?_getD] at e
  unfold sb at e
  rw [List.getElem?_map, List.getElem?_eq_getElem hd] at e
  have h2 := noZ_mem h _ (List.getElem_mem hd)
  apply h2
  have e2 : (s.data.toList[i].toNat : Int) = 0 := e
  have e3 : s.data.toList[i].toNat = 0 := by omega
  exact UInt8.toNat_inj.1 (e3.trans rfl)
theorem by_text {s : ByteArray} (h : NoZ s) (hl : s.size ≤ 1000) : colonnaderef03_Bytes.f 2000 (sb s) = some (sb s ++ [0, 0]) := by
  unfold colonnaderef03_Bytes.f
  have := by_l0 (sb s) (sb_nz h) (by rw [sb_len]; omega) (sb s).length 2000 0 [] (by omega) rfl (by rw [sb_len]; omega)
  simpa using this
theorem pb_text {s : ByteArray} {r : List Int} (h : NoZ s) (hl : (sb s ++ [0, 0] ++ r).length ≤ 140737488355328) : ∀ (d k i : Nat), i + d = s.size → d + 1 < k → colonnaderef03_ParseBytes.l0 k (sb s ++ [0, 0] ++ r) ((sb s).take i) (i : Int) = some (sb s, (s.size : Int) + 2, 0) := by
  have hlen : (sb s ++ [0, 0] ++ r).length = s.size + 2 + r.length := by rw [List.length_append, List.length_append, sb_len]; rfl
  rw [hlen] at hl
  intro d
  induction d with
  | zero =>
    intro k i hi hk
    obtain ⟨k, rfl⟩ : ∃ m, k = m + 1 := ⟨k - 1, by omega⟩
    have hi' : i = s.size := by omega
    subst hi'
    have hr0 : rd (sb s ++ [0, 0] ++ r) (s.size : Int) = 0 := by
      rw [rd_nat, List.append_assoc, List.getD_eq_getElem?_getD, List.getElem?_append_right (by rw [sb_len]; omega), sb_len, Nat.sub_self]
      rfl
    have hr1 : rd (sb s ++ [0, 0] ++ r) ((s.size : Int) + 1) = 0 := by
      rw [show ((s.size : Int) + 1) = ((s.size + 1 : Nat) : Int) by omega, rd_nat]
      exact text_second
    rw [colonnaderef03_ParseBytes.l0, if_pos (by rw [hlen]; omega), if_pos (by omega), if_pos hr0, w64b ((s.size : Int) + 1) (by omega) (by omega), if_neg (by rw [hlen]; omega), if_pos (by omega), if_pos (by rw [hlen]; omega), if_pos hr1, w64b _ (by omega) (by omega), List.take_of_length_le (by rw [sb_len]; omega)]
  | succ d ih =>
    intro k i hi hk
    obtain ⟨k, rfl⟩ : ∃ m, k = m + 1 := ⟨k - 1, by omega⟩
    have hlt : i < (sb s).length := by rw [sb_len]; omega
    have hrd : rd (sb s ++ [0, 0] ++ r) (i : Int) = (sb s).getD i 0 := by
      rw [rd_nat, List.append_assoc, List.getD_eq_getElem?_getD, List.getElem?_append_left hlt, ← List.getD_eq_getElem?_getD]
    rw [colonnaderef03_ParseBytes.l0, if_pos (by rw [hlen]; omega), if_pos (by omega), hrd, if_neg (sb_nz h i hlt), if_pos (by rw [List.length_take]; omega), w64b _ (by omega) (by omega), show ((i : Int) + 1) = ((i + 1 : Nat) : Int) by omega]
    have := ih k (i + 1) (by omega) (by omega)
    rw [List.take_succ_eq_append_getElem hlt] at this
    rw [List.getD_eq_getElem?_getD, List.getElem?_eq_getElem hlt]
    exact this
theorem pb_l0 (ys : List Int) (hr : RdOk ys) (hl : ys.length ≤ 140737488355327) : ∀ (d k i : Nat) (acc : List Int), ys.length ≤ i + d → i ≤ ys.length → acc.length ≤ i → RdOk acc → d < k →
    ∃ out sz e, colonnaderef03_ParseBytes.l0 k ys acc (i : Int) = some (out, sz, e) ∧ RdOk out ∧ out.length ≤ ys.length ∧ 0 ≤ sz ∧ sz ≤ (ys.length : Int) := by
  intro d
  induction d with
  | zero =>
    intro k i acc hi hi2 ha hro hk
    obtain ⟨k, rfl⟩ : ∃ m, k = m + 1 := ⟨k - 1, by omega⟩
    rw [colonnaderef03_ParseBytes.l0, if_neg (by omega)]
    exact ⟨_, _, _, rfl, fun i hi => absurd hi (by simp), by simp, by omega, by omega⟩
  | succ d ih =>
    intro k i acc hi hi2 ha hro hk
    obtain ⟨k, rfl⟩ : ∃ m, k = m + 1 := ⟨k - 1, by omega⟩
    have hnil : RdOk ([] : List Int) := fun i hi => absurd hi (by simp)
    rw [colonnaderef03_ParseBytes.l0]
    by_cases c : (i : Int) < (ys.length : Int)
    · rw [if_pos c, if_pos (by omega), w64b ((i : Int) + 1) (by omega) (by omega), w64b ((i : Int) + 2) (by omega) (by omega)]
      by_cases c1 : rd ys (i : Int) = 0
      · rw [if_pos c1]
        by_cases c2 : (i : Int) + 1 = (ys.length : Int)
        · rw [if_pos c2]
          exact ⟨_, _, _, rfl, hnil, by simp, by omega, by omega⟩
        · rw [if_neg c2, if_pos (by omega), if_pos (by omega)]
          by_cases c3 : rd ys ((i : Int) + 1) = 0
          · rw [if_pos c3]
            exact ⟨_, _, _, rfl, hro, by omega, by omega, by omega⟩
          · rw [if_neg c3]
            by_cases c4 : rd ys ((i : Int) + 1) = 1
            · rw [if_pos c4, if_pos (by omega), w64b ((i : Int) + 1 + 1) (by omega) (by omega), show ((i : Int) + 1 + 1) = ((i + 2 : Nat) : Int) by omega]
              exact ih k (i + 2) _ (by omega) (by omega) (by simp; omega) (hro.append RdOk.zero) (by omega)
            · rw [if_neg c4]
              exact ⟨_, _, _, rfl, hnil, by simp, by omega, by omega⟩
      · rw [if_neg c1, if_pos (by omega), show ((i : Int) + 1) = ((i + 1 : Nat) : Int) by omega]
        refine ih k (i + 1) _ (by omega) (by omega) (by simp; omega) (hro.append fun j hj => ?_) (by omega)
        have hj0 : j = 0 := by simpa using hj
        subst hj0
        exact hr i (by omega)
    · rw [if_neg c]
      exact ⟨_, _, _, rfl, hnil, by simp, by omega, by omega⟩
theorem pb_any (ys : List Int) (hr : RdOk ys) (hl : ys.length ≤ 140737488355327) : ∃ out sz e, colonnaderef03_ParseBytes.f (ys.length + 10) ys = some (out, sz, e) ∧ RdOk out ∧ out.length ≤ ys.length ∧ 0 ≤ sz ∧ sz ≤ (ys.length : Int) ∧
    ∀ (s0 : ByteArray) (r : List Int), NoZ s0 → ys = sb s0 ++ [0, 0] ++ r → out = sb s0 ∧ sz = (s0.size : Int) + 2 ∧ e = 0 := by
  unfold colonnaderef03_ParseBytes.f
  obtain ⟨out, sz, e, h1, h2, h3, h4, h5⟩ := pb_l0 ys hr hl ys.length (ys.length + 10) 0 [] (by omega) (by omega) (by simp) (fun i hi => absurd hi (by simp)) (by omega)
  refine ⟨out, sz, e, h1, h2, h3, h4, h5, fun s0 r hz hy => ?_⟩
  have hs : s0.size ≤ ys.length := by rw [hy, List.length_append, List.length_append, sb_len]; omega
  have := pb_text (r := r) hz (by rw [← hy]; omega) s0.size (ys.length + 10) 0 (by omega) (by omega)
  rw [← hy, List.take_zero] at this
  rw [h1] at this
  have h6 := Option.some.inj this
  exact ⟨congrArg Prod.fst h6, congrArg (fun x => x.2.1) h6, congrArg (fun x => x.2.2) h6⟩
theorem R_own {w : World} {base : Nat} {ok : Nat → Prop} {v : Value} {xs : List Int} (h : Kd.R (Kd.int .u8) 5 w base ok v xs) : w.ownsRow base 5 1 v xs.length (nums .u8 xs) := by
  obtain ⟨inner, ho, hr⟩ := h.2
  have e : inner = nums .u8 xs := by
    have h1 := hr.1
    apply List.ext_getElem?
    intro j
    by_cases c : j < xs.length
    · have := hr.2 j _ (List.getElem?_eq_getElem c)
      have h2 : (inner.drop (j * 1)).take 1 = [.int .u8 xs[j]] := this
      have h3 := congrArg (fun l => l[0]?) h2
      simp at h3
      unfold nums
      rw [List.getElem?_map, List.getElem?_eq_getElem c]
      exact h3
    · have h1' : inner.length = xs.length * 1 := h1
      rw [List.getElem?_eq_none (by omega), List.getElem?_eq_none (by rw [nums_len]; omega)]
  rw [e] at ho
  exact ho
theorem pb_calls (A : Option Addr) (c : Nat) (ys : List Int) (W : World) (hA : RowAt W A ys) (hr : RdOk ys) (hlen : ys.length ≤ 140737488355327) (hc : ys.length ≤ c) : Calls Tryz.prog 120 #[.slice A ys.length c] W fun e w' =>
    ∃ (A' : Option Addr) (c' : Nat) (out : List Int) (k f : Int), e = .returned (.tuple #[.slice A' out.length c', .int .i64 k, .int .i64 f]) ∧ RowAt w' A' out ∧ RdOk out ∧ out.length ≤ ys.length ∧ (∀ ad, A' = some ad → W.heap.size ≤ ad.block) ∧ Below W.heap.size W w' ∧ (0 ≤ k ∧ k ≤ (ys.length : Int)) ∧ ∀ (s0 : ByteArray) (r : List Int), NoZ s0 → ys = sb s0 ++ [0, 0] ++ r → out = sb s0 ∧ k = (s0.size : Int) + 2 ∧ f = 0 := by
  obtain ⟨out, sz, e, h1, h2, h3, h4, h5, h6⟩ := pb_any ys hr hlen
  refine (colonnaderef03_ParseBytes.calls (ys.length + 10) A c ys out sz e W (C_of_row hA (by omega)) hc h1).mono ?_
  rintro x w1 ⟨v, rfl, hR, hb⟩
  have ho := R_own hR
  obtain ⟨A1, c1, rfl, _, hC⟩ := own_bytes ho
  exact ⟨A1, c1, out, sz, e, rfl, rowAt_of hC, h2, h3, fun ad ea => ((own_block ho).2 ad ea).1, hb, ⟨h4, h5⟩, h6⟩
end Go.Proofs.YtmeopdjdjmjngaaGreatDoor.I
