/- Tokens joined by the printed lex.Join. -/
import Derived.Test.YtmpamcfeijnafaaDoorLexBack
import Derived.Test.YtmpamcfeijnafaaDoorPureLexK
import Derived.Lib.Join
import Derived.Test.YtmpamcfeijnafaaDoorP3
namespace Go.Proofs.YtmpamcfeijnafaaDoor.Pure
open Go.RowKit Go.Proofs.YtmpamcfeijnafaaDoor.P Go.Proofs.YtmpamcfeijnafaaDoorW.PrintWords Go.Proofs.YtmpamcfeijnafaaDoorW.PrintLast Go.Proofs.YtmpamcfeijnafaaDoor.Str Go.Proofs.YtmpamcfeijnafaaDoor.Lex

theorem join_jn : ∀ L : List (Int × List UInt8), Lib.join (L.map txt) [32] = jn L
  | [] => rfl
  | [x] => by simp [Lib.join, jn, List.intercalate]
  | x :: y :: r => by
    have ih := join_jn (y :: r)
    unfold Lib.join at ih ⊢
    simp only [List.map_cons, List.intercalate, List.intersperse_cons_cons, List.flatten_cons] at ih ⊢
    rw [ih]
    rfl
theorem txt_le (x : Int × List UInt8) : (txt x).length ≤ 2 * x.2.length + 2 := by
  have := dbl_le x.2
  unfold txt
  split
  · simp only [List.length_cons, List.length_append, List.length_nil]; omega
  · omega
theorem jn_le (M : Nat) : ∀ L : List (Int × List UInt8), (∀ x ∈ L, x.2.length ≤ M) → (jn L).length ≤ L.length * (2 * M + 3)
  | [], _ => by simp [jn]
  | [x], h => by
    have h1 := txt_le x
    have h2 := h x (by simp)
    simp only [jn, List.length_cons, List.length_nil]
    omega
  | x :: y :: r, h => by
    have h1 := txt_le x
    have h2 := h x (by simp)
    have ih := jn_le M (y :: r) (fun z hz => h z (List.mem_cons_of_mem _ hz))
    simp only [jn, List.length_append, List.length_cons] at ih ⊢
    rw [Nat.add_mul (r.length + 1) 1]
    omega
abbrev Tok := S25
def kS (x : Tok) : Int × List UInt8 := (x.f0, x.f1.data.toList)
def small (L : List Tok) : Prop := L.length ≤ 1048576 ∧ ∀ x ∈ L, x.f1.size ≤ 33554432
theorem small_jn {L : List Tok} (h : small L) : (jn (L.map kS)).length ≤ 140737488355328 := by
  have := jn_le 33554432 (L.map kS) (by
    intro x hx
    obtain ⟨y, hy, rfl⟩ := List.mem_map.1 hx
    have := h.2 y hy
    have e : y.f1.size = y.f1.data.toList.length := Array.length_toList.symm
    show y.f1.data.toList.length ≤ _
    omega)
  rw [List.length_map] at this
  have h1 := h.1
  have : L.length * (2 * 33554432 + 3) ≤ 1048576 * (2 * 33554432 + 3) := Nat.mul_le_mul_right _ h1
  omega
theorem rdt (L : List Tok) (i : Nat) (h : i < L.length) : rd_T25 L (i : Int) = L[i] := by
  unfold rd_T25
  rw [Int.toNat_natCast, List.getD_eq_getElem?_getD, List.getElem?_eq_getElem h]; rfl
def tB (x : Tok) : ByteArray := B (txt (kS x))
theorem sizeL (s : ByteArray) : s.data.toList.length = s.size := Array.length_toList
theorem replace_B (s : ByteArray) (h : s.size ≤ 33554432) : strings_ReplaceAll.f s (⟨#[39]⟩ : ByteArray) (⟨#[39, 39]⟩ : ByteArray) = some (B (dbl s.data.toList)) := by
  unfold strings_ReplaceAll.f
  have hc : Lib.countB s (⟨#[39]⟩ : ByteArray) ≤ s.size := by
    unfold Lib.countB
    show Lib.count s.data.toList [39] ≤ _
    rw [Lib.count_one]
    have := List.count_le_length (a := (39 : UInt8)) (l := s.data.toList)
    rw [sizeL] at this
    exact this
  have h2 : (⟨#[39, 39]⟩ : ByteArray).size = 2 := rfl
  have h1 : (⟨#[39]⟩ : ByteArray).size = 1 := rfl
  rw [h2, h1, if_pos ⟨by omega, by omega, by omega⟩]
  show some (B (Lib.replaceAll s.data.toList [39] [39, 39])) = _
  rw [replaceAll_dbl]
theorem join_loop (L : List Tok) (hL : small L) : ∀ (d k i : Nat), i + d = L.length → d < k → lex_Join.l0 k ((L.take i).map tB) L (L.length : Int) (i : Int) = some (B (jn (L.map kS))) := by
  intro d
  induction d with
  | zero =>
    intro k i h hk
    obtain ⟨k, rfl⟩ : ∃ q, k = q + 1 := ⟨k - 1, by omega⟩
    unfold lex_Join.l0
    have hl := hL.1
    have hj : Lib.join (((L.take i).map tB).map (·.data.toList)) [32] = jn (L.map kS) := by
      rw [List.take_of_length_le (by omega), List.map_map, ← join_jn, List.map_map]
      congr 1 <;> exact List.map_congr_left (fun x _ => B_data _)
    have hb := small_jn hL
    rw [if_neg (by omega)]
    unfold strings_Join.f
    rw [show (⟨#[32]⟩ : ByteArray).data.toList = [32] from rfl, hj, if_pos ⟨by rw [List.length_map, List.length_take]; omega, hb⟩, Option.bind_some]
    rfl
  | succ d ih =>
    intro k i h hk
    obtain ⟨k, rfl⟩ : ∃ q, k = q + 1 := ⟨k - 1, by omega⟩
    have hi : i < L.length := by omega
    have hl := hL.1
    have hs := hL.2 L[i] (List.getElem_mem hi)
    have hx : (L.take (i + 1)).map tB = (L.take i).map tB ++ [tB L[i]] := by
      rw [List.take_succ_eq_append_getElem hi, List.map_append]; rfl
    have hlen : ((L.take i).map tB).length < 8796093022208 := by rw [List.length_map, List.length_take]; omega
    unfold lex_Join.l0
    rw [if_pos (by omega), if_pos (by omega), if_pos (by omega), rdt L i hi, w64_succ i (by omega)]
    have hd := dbl_le L[i].f1.data.toList
    rw [sizeL] at hd
    by_cases hk3 : L[i].f0 = 3
    · rw [if_pos hk3, replace_B _ hs, Option.bind_some, show (⟨#[39]⟩ : ByteArray) = B [39] from rfl, B_append, B_append, B_size, B_size, if_pos (by omega), if_pos (by simp only [List.length_append, List.length_singleton]; omega), if_pos hlen]
      have e : B ([39] ++ dbl L[i].f1.data.toList ++ [39]) = tB L[i] := by
        unfold tB txt kS
        rw [if_pos hk3]
        simp
      rw [e, ← hx]
      exact ih k (i + 1) (by omega) (by omega)
    · rw [if_neg hk3, if_pos hlen]
      have e : L[i].f1 = tB L[i] := by
        unfold tB txt kS
        rw [if_neg hk3]
        exact B_of _
      rw [e, ← hx]
      exact ih k (i + 1) (by omega) (by omega)
theorem join_B (k : Nat) (L : List Tok) (hL : small L) (hk : L.length < k) : lex_Join.f k L = some (B (jn (L.map kS))) := by
  unfold lex_Join.f
  exact join_loop L hL L.length k 0 (by omega) hk
theorem mkAll_len (l : List (Int × List UInt8 × Nat)) : (mkAll l).length = l.length := List.length_map _
theorem kS_mk (x : Int × List UInt8 × Nat) : kS (mk x) = kt x := by
  unfold kS mk kt
  rw [B_data]
theorem toks_small : ∀ (f : Nat) (m : List UInt8) (i : Nat) (N : Nat), m.length ≤ N → 256 ≤ N → ∀ x ∈ (toks f m i).1, x.2.1.length ≤ N := by
  intro f
  induction f with
  | zero => intro m i N _ _ x hx; simp [toks] at hx
  | succ f ih =>
    intro m i N h1 h2 x hx
    cases m with
    | nil => rw [toks_nil] at hx; cases hx
    | cons c r =>
      cases ho : one (c :: r) with
      | none => rw [toks_none f i ho] at hx; cases hx
      | some y =>
        obtain ⟨kd, t, n⟩ := y
        rw [toks_some f i ho] at hx
        rcases List.mem_cons.1 hx with rfl | hx
        · show t.length ≤ N
          by_cases h3 : kd = 3
          · obtain ⟨c', r', _, h | h | h | h | h⟩ := one_cases ho
            · omega
            · omega
            · have := h.2.2.2.2.1; omega
            · omega
            · omega
          · have := one_len ho h3
            have := (one_le ho).2
            omega
        · exact ih _ _ N (by rw [List.length_drop]; omega) h2 x hx
theorem known_small (l : List UInt8) (h : l.length ≤ 65536) : small (mkAll (known l).1) := by
  have h1 := known_len l
  refine ⟨by rw [mkAll_len]; omega, fun x hx => ?_⟩
  obtain ⟨y, hy, rfl⟩ := List.mem_map.1 hx
  have := toks_small (l.length + 1) (l.drop (sp false l)) (sp false l) 65536 (by rw [List.length_drop]; omega) (by omega) y hy
  show (B y.2.1).size ≤ _
  rw [B_size]; omega
theorem mkAll_kS (l : List (Int × List UInt8 × Nat)) : (mkAll l).map kS = l.map kt := by
  unfold mkAll
  rw [List.map_map]
  exact List.map_congr_left (fun x _ => kS_mk x)
end Go.Proofs.YtmpamcfeijnafaaDoor.Pure
