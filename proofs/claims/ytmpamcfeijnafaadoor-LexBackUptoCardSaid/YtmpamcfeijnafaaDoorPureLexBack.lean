/- LexBack: what the printed law computes is true, for tokens and a text that are not too great. -/
import Derived.Test.YtmpamcfeijnafaaDoorLexBack
import Derived.Test.YtmpamcfeijnafaaDoorPureLexK
import Derived.Lib.Join
import Derived.Test.YtmpamcfeijnafaaDoorR10
import Derived.Test.YtmpamcfeijnafaaDoorR6
import Derived.Test.YtmpamcfeijnafaaDoorR7
import Derived.Test.YtmpamcfeijnafaaDoorR8
import Derived.Test.YtmpamcfeijnafaaDoorR9
namespace Go.Proofs.YtmpamcfeijnafaaDoor.Pure
open Go.RowKit Go.Proofs.YtmpamcfeijnafaaDoor.R Go.Proofs.YtmpamcfeijnafaaDoorW.PrintWords Go.Proofs.YtmpamcfeijnafaaDoorW.PrintLast Go.Proofs.YtmpamcfeijnafaaDoor.Str Go.Proofs.YtmpamcfeijnafaaDoor.Lex

theorem join_jn : ∀ L : List (Int × List UInt8), Lib.join (L.map txt) [32] = jn L
  | [] => rfl
  | [x] => by simp [Lib.join, jn, List.intercalate]
  | x :: y :: r => by
    have ih := join_jn (y :: r)
    unfold Lib.join at ih ⊢
    simp only [List.map_cons, List.intercalate, List.intersperse_cons_cons, List.flatten_cons] at ih ⊢
    rw [ih]
    rfl
theorem txt_le (x : Int × List UInt8) : (txt x).length ≤ 2 * x.2.length + 2 := by
  have := dbl_le x.2
  unfold txt
  split
  · simp only [List.length_cons, List.length_append, List.length_nil]; omega
  · omega
theorem jn_le (M : Nat) : ∀ L : List (Int × List UInt8), (∀ x ∈ L, x.2.length ≤ M) → (jn L).length ≤ L.length * (2 * M + 3)
  | [], _ => by simp [jn]
  | [x], h => by
    have h1 := txt_le x
    have h2 := h x (by simp)
    simp only [jn, List.length_cons, List.length_nil]
    omega
  | x :: y :: r, h => by
    have h1 := txt_le x
    have h2 := h x (by simp)
    have ih := jn_le M (y :: r) (fun z hz => h z (List.mem_cons_of_mem _ hz))
    simp only [jn, List.length_append, List.length_cons] at ih ⊢
    rw [Nat.add_mul (r.length + 1) 1]
    omega
abbrev Tok := S25
def kS (x : Tok) : Int × List UInt8 := (x.f0, x.f1.data.toList)
def small (L : List Tok) : Prop := L.length ≤ 1048576 ∧ ∀ x ∈ L, x.f1.size ≤ 33554432
theorem small_jn {L : List Tok} (h : small L) : (jn (L.map kS)).length ≤ 140737488355328 := by
  have := jn_le 33554432 (L.map kS) (by
    intro x hx
    obtain ⟨y, hy, rfl⟩ := List.mem_map.1 hx
    have := h.2 y hy
    have e : y.f1.size = y.f1.data.toList.length := Array.length_toList.symm
    show y.f1.data.toList.length ≤ _
    omega)
  rw [List.length_map] at this
  have h1 := h.1
  have : L.length * (2 * 33554432 + 3) ≤ 1048576 * (2 * 33554432 + 3) := Nat.mul_le_mul_right _ h1
  omega
theorem rdt (L : List Tok) (i : Nat) (h : i < L.length) : rd_T25 L (i : Int) = L[i] := by
  unfold rd_T25
  rw [Int.toNat_natCast, List.getD_eq_getElem?_getD, List.getElem?_eq_getElem h]; rfl
def tB (x : Tok) : ByteArray := B (txt (kS x))
theorem sizeL (s : ByteArray) : s.data.toList.length = s.size := Array.length_toList
theorem replace_B (s : ByteArray) (h : s.size ≤ 33554432) : strings_ReplaceAll.f s (⟨#[39]⟩ : ByteArray) (⟨#[39, 39]⟩ : ByteArray) = some (B (dbl s.data.toList)) := by
  unfold strings_ReplaceAll.f
  have hc : Lib.countB s (⟨#[39]⟩ : ByteArray) ≤ s.size := by
    unfold Lib.countB
    show Lib.count s.data.toList [39] ≤ _
    rw [Lib.count_one]
    have := List.count_le_length (a := (39 : UInt8)) (l := s.data.toList)
    rw [sizeL] at this
    exact this
  have h2 : (⟨#[39, 39]⟩ : ByteArray).size = 2 := rfl
  have h1 : (⟨#[39]⟩ : ByteArray).size = 1 := rfl
  rw [h2, h1, if_pos ⟨by omega, by omega, by omega⟩]
  show some (B (Lib.replaceAll s.data.toList [39] [39, 39])) = _
  rw [replaceAll_dbl]
theorem join_loop (L : List Tok) (hL : small L) : ∀ (d k i : Nat), i + d = L.length → d < k → lex_Join.l0 k ((L.take i).map tB) L (L.length : Int) (i : Int) = some (B (jn (L.map kS))) := by
  intro d
  induction d with
  | zero =>
    intro k i h hk
    obtain ⟨k, rfl⟩ : ∃ q, k = q + 1 := ⟨k - 1, by omega⟩
    unfold lex_Join.l0
    have hl := hL.1
    have hj : Lib.join (((L.take i).map tB).map (·.data.toList)) [32] = jn (L.map kS) := by
      rw [List.take_of_length_le (by omega), List.map_map, ← join_jn, List.map_map]
      congr 1 <;> exact List.map_congr_left (fun x _ => B_data _)
    have hb := small_jn hL
    rw [if_neg (by omega)]
    unfold strings_Join.f
    rw [show (⟨#[32]⟩ : ByteArray).data.toList = [32] from rfl, hj, if_pos ⟨by rw [List.length_map, List.length_take]; omega, hb⟩, Option.bind_some]
    rfl
  | succ d ih =>
    intro k i h hk
    obtain ⟨k, rfl⟩ : ∃ q, k = q + 1 := ⟨k - 1, by omega⟩
    have hi : i < L.length := by omega
    have hl := hL.1
    have hs := hL.2 L[i] (List.getElem_mem hi)
    have hx : (L.take (i + 1)).map tB = (L.take i).map tB ++ [tB L[i]] := by
      rw [List.take_succ_eq_append_getElem hi, List.map_append]; rfl
    have hlen : ((L.take i).map tB).length < 8796093022208 := by rw [List.length_map, List.length_take]; omega
    unfold lex_Join.l0
    rw [if_pos (by omega), if_pos (by omega), if_pos (by omega), rdt L i hi, w64_succ i (by omega)]
    have hd := dbl_le L[i].f1.data.toList
    rw [sizeL] at hd
    by_cases hk3 : L[i].f0 = 3
    · rw [if_pos hk3, replace_B _ hs, Option.bind_some, show (⟨#[39]⟩ : ByteArray) = B [39] from rfl, B_append, B_append, B_size, B_size, if_pos (by omega), if_pos (by simp only [List.length_append, List.length_singleton]; omega), if_pos hlen]
      have e : B ([39] ++ dbl L[i].f1.data.toList ++ [39]) = tB L[i] := by
        unfold tB txt kS
        rw [if_pos hk3]
        simp
      rw [e, ← hx]
      exact ih k (i + 1) (by omega) (by omega)
    · rw [if_neg hk3, if_pos hlen]
      have e : L[i].f1 = tB L[i] := by
        unfold tB txt kS
        rw [if_neg hk3]
        exact B_of _
      rw [e, ← hx]
      exact ih k (i + 1) (by omega) (by omega)
theorem join_B (k : Nat) (L : List Tok) (hL : small L) (hk : L.length < k) : lex_Join.f k L = some (B (jn (L.map kS))) := by
  unfold lex_Join.f
  exact join_loop L hL L.length k 0 (by omega) hk
theorem mkAll_len (l : List (Int × List UInt8 × Nat)) : (mkAll l).length = l.length := List.length_map _
theorem kS_mk (x : Int × List UInt8 × Nat) : kS (mk x) = kt x := by
  unfold kS mk kt
  rw [B_data]
theorem check_B (k : Nat) (hk : 400000000 ≤ k) (a0 : Int) (a1 : ByteArray) (a2 : Int) (h1 : a1.size ≤ 33554432) : ∃ r, lex_Check.f k a0 a1 a2 = some r ∧ (r = 0 → good (a0, a1.data.toList)) := by
  have hsm : small [(⟨a0, a1, a2⟩ : Tok)] := ⟨by simp, fun x hx => by rw [List.mem_singleton.1 hx]; exact h1⟩
  have hj := join_B k [(⟨a0, a1, a2⟩ : Tok)] hsm (by simp; omega)
  have hle := jn_le 33554432 [(a0, a1.data.toList)] (by intro x hx; rw [List.mem_singleton.1 hx]; show a1.data.toList.length ≤ _; rw [sizeL]; exact h1)
  have e : jn ([(⟨a0, a1, a2⟩ : Tok)].map kS) = txt (a0, a1.data.toList) := rfl
  have e2 : jn [(a0, a1.data.toList)] = txt (a0, a1.data.toList) := rfl
  rw [e] at hj
  rw [e2, List.length_singleton] at hle
  unfold lex_Check.f
  rw [hj, Option.bind_some, lexknown_B k _ (by omega) (by omega), Option.bind_some]
  simp only
  cases hn : (known (txt (a0, a1.data.toList))).2 with
  | some p => exact ⟨160, if_pos (show (p : Int) ≥ 0 by omega), fun h => absurd h (by decide)⟩
  | none =>
    rw [if_neg (show ¬ at1 none ≥ 0 by decide)]
    by_cases hl : ((mkAll (known (txt (a0, a1.data.toList))).1).length : Int) = 1
    · rw [if_pos hl, if_pos (by omega)]
      obtain ⟨x, hx⟩ : ∃ x, (known (txt (a0, a1.data.toList))).1 = [x] := by
        have : (known (txt (a0, a1.data.toList))).1.length = 1 := by
          unfold mkAll at hl
          rw [List.length_map] at hl
          omega
        exact List.length_eq_one_iff.1 this
      rw [hx]
      have hr : rd_T25 (mkAll [x]) 0 = mk x := rfl
      rw [hr]
      by_cases g1 : (mk x).f0 = a0
      · rw [if_pos g1]
        by_cases g2 : (mk x).f1.toList = a1.toList
        · rw [if_pos g2]
          refine ⟨0, rfl, fun _ => ?_⟩
          apply chk_good
          refine ⟨x.2.2, ?_⟩
          have h2 : x.2.1 = a1.data.toList := by
            have : (B x.2.1).toList = a1.toList := g2
            rwa [B_toList, toList_eq] at this
          have h1 : x.1 = a0 := g1
          have : known (txt (a0, a1.data.toList)) = ([x], none) := Prod.ext hx hn
          rw [this]
          obtain ⟨x1, x2, x3⟩ := x
          simp only at h1 h2
          rw [h1, h2]
        · rw [if_neg g2]; exact ⟨160, rfl, fun h => absurd h (by decide)⟩
      · rw [if_neg g1]; exact ⟨160, rfl, fun h => absurd h (by decide)⟩
    · rw [if_neg hl]; exact ⟨160, rfl, fun h => absurd h (by decide)⟩
theorem Same_loop (L M : List Tok) (h : L.map kS = M.map kS) (hl : L.length ≤ 10000000) : ∀ (d k i : Nat), i + d = L.length → d < k → colonnaderef16_Same.l0 k L M (i : Int) = some true := by
  have hlen : L.length = M.length := by have := congrArg List.length h; rwa [List.length_map, List.length_map] at this
  intro d
  induction d with
  | zero =>
    intro k i e hk
    obtain ⟨k, rfl⟩ : ∃ q, k = q + 1 := ⟨k - 1, by omega⟩
    unfold colonnaderef16_Same.l0
    rw [if_neg (by omega)]
  | succ d ih =>
    intro k i e hk
    obtain ⟨k, rfl⟩ : ∃ q, k = q + 1 := ⟨k - 1, by omega⟩
    have h1 : i < L.length := by omega
    have h2 : i < M.length := by omega
    have hi : kS L[i] = kS M[i] := by
      have := congrArg (fun l => l[i]?) h
      simpa [List.getElem?_map, List.getElem?_eq_getElem h1, List.getElem?_eq_getElem h2] using this
    unfold kS at hi
    simp only [Prod.mk.injEq] at hi
    unfold colonnaderef16_Same.l0
    rw [if_pos (by omega), if_pos (by omega), if_pos (by omega), rdt L i h1, rdt M i h2, if_pos hi.1, if_pos (by rw [toList_eq, toList_eq, hi.2]), w64_succ i (by omega), ih k (i + 1) (by omega) (by omega)]
theorem Same_B (k : Nat) (L M : List Tok) (h : L.map kS = M.map kS) (hl : L.length ≤ 10000000) (hk : L.length < k) : colonnaderef16_Same.f k L M = some true := by
  have hlen : L.length = M.length := by have := congrArg List.length h; rwa [List.length_map, List.length_map] at this
  unfold colonnaderef16_Same.f
  rw [if_pos (by rw [hlen])]
  exact Same_loop L M h hl L.length k 0 (by omega) hk
theorem toks_small : ∀ (f : Nat) (m : List UInt8) (i : Nat) (N : Nat), m.length ≤ N → 256 ≤ N → ∀ x ∈ (toks f m i).1, x.2.1.length ≤ N := by
  intro f
  induction f with
  | zero => intro m i N _ _ x hx; simp [toks] at hx
  | succ f ih =>
    intro m i N h1 h2 x hx
    cases m with
    | nil => rw [toks_nil] at hx; cases hx
    | cons c r =>
      cases ho : one (c :: r) with
      | none => rw [toks_none f i ho] at hx; cases hx
      | some y =>
        obtain ⟨kd, t, n⟩ := y
        rw [toks_some f i ho] at hx
        rcases List.mem_cons.1 hx with rfl | hx
        · show t.length ≤ N
          by_cases h3 : kd = 3
          · obtain ⟨c', r', _, h | h | h | h | h⟩ := one_cases ho
            · omega
            · omega
            · have := h.2.2.2.2.1; omega
            · omega
            · omega
          · have := one_len ho h3
            have := (one_le ho).2
            omega
        · exact ih _ _ N (by rw [List.length_drop]; omega) h2 x hx
theorem known_small (l : List UInt8) (h : l.length ≤ 65536) : small (mkAll (known l).1) := by
  have h1 := known_len l
  refine ⟨by rw [mkAll_len]; omega, fun x hx => ?_⟩
  obtain ⟨y, hy, rfl⟩ := List.mem_map.1 hx
  have := toks_small (l.length + 1) (l.drop (sp false l)) (sp false l) 65536 (by rw [List.length_drop]; omega) (by omega) y hy
  show (B y.2.1).size ≤ _
  rw [B_size]; omega
theorem mkAll_kS (l : List (Int × List UInt8 × Nat)) : (mkAll l).map kS = l.map kt := by
  unfold mkAll
  rw [List.map_map]
  exact List.map_congr_left (fun x _ => kS_mk x)
/-- tokens that may be, joined, if not too long: taken apart they are the same -/
theorem again (k : Nat) (hk : 400000000 ≤ k) (L : List Tok) (hg : ∀ x ∈ L, good (kS x)) (h : (jn (L.map kS)).length ≤ 65536) :
    lex_Tokens.f k (B (jn (L.map kS))) = some (mkAll (known (jn (L.map kS))).1, 0, 0) ∧ (mkAll (known (jn (L.map kS))).1).map kS = L.map kS := by
  obtain ⟨h1, h2⟩ := known_jn (L := L.map kS) (by
    intro x hx
    obtain ⟨y, hy, rfl⟩ := List.mem_map.1 hx
    exact hg y hy)
  refine ⟨?_, by rw [mkAll_kS]; exact h2⟩
  rw [lexTokens_B k (by omega)]
  unfold tokV
  rw [if_neg (by omega), h1]
theorem back_end (k : Nat) (hk : 400000001 ≤ k) (w : ByteArray) : colonnadelaw16_LexBack.j1 k w = some true := by
  obtain ⟨k, rfl⟩ : ∃ q, k = q + 1 := ⟨k - 1, by omega⟩
  rw [colonnadelaw16_LexBack.j1]
  have hw := B_of w
  generalize w.data.toList = l at hw
  subst hw
  rw [lexTokens_B k (by omega), Option.bind_some]
  unfold tokV
  by_cases hl : l.length > 65536
  · rw [if_pos hl]; rfl
  · rw [if_neg hl]
    cases hn : (known l).2 with
    | some p => rfl
    | none =>
      simp only [if_true]
      have hsm := known_small l (by omega)
      have hlen := known_len l
      have hgood : ∀ x ∈ mkAll (known l).1, good (kS x) := by
        intro x hx
        obtain ⟨y, hy, rfl⟩ := List.mem_map.1 hx
        rw [kS_mk]
        exact known_good _ _ _ y hy
      have hml : (mkAll (known l).1).length ≤ 65536 := by rw [mkAll_len]; omega
      rw [join_B k _ hsm (by omega), Option.bind_some, B_size]
      by_cases hb : (jn ((mkAll (known l).1).map kS)).length ≤ 65536
      · rw [if_neg (by omega)]
        obtain ⟨a1, a2⟩ := again k (by omega) _ hgood hb
        have hsm2 := known_small _ hb
        have hl2 := known_len (jn ((mkAll (known l).1).map kS))
        have hml2 : (mkAll (known (jn ((mkAll (known l).1).map kS))).1).length ≤ 65536 := by rw [mkAll_len]; omega
        rw [a1, Option.bind_some]
        simp only [if_true]
        rw [Same_B k _ _ a2 (by omega) (by omega), Option.bind_some, if_pos rfl, join_B k _ hsm2 (by omega), Option.bind_some, a2]
        simp
      · rw [if_pos (by omega)]
theorem back_loop (l : List Tok) (hl : small l) (w : ByteArray) : ∀ (d k i : Nat) (acc : List Tok), i + d = l.length → acc.length ≤ i → (∀ x ∈ acc, good (kS x) ∧ x.f1.size ≤ 33554432) → 400000002 + d < k →
    colonnadelaw16_LexBack.l0 k w acc l (l.length : Int) (i : Int) = some true := by
  have hln := hl.1
  intro d
  induction d with
  | zero =>
    intro k i acc h ha hg hk
    obtain ⟨k, rfl⟩ : ∃ q, k = q + 1 := ⟨k - 1, by omega⟩
    unfold colonnadelaw16_LexBack.l0
    have hsm : small acc := ⟨by omega, fun x hx => (hg x hx).2⟩
    rw [if_neg (by omega), join_B k acc hsm (by omega), Option.bind_some, B_size]
    by_cases hb : (jn (acc.map kS)).length ≤ 65536
    · obtain ⟨a1, a2⟩ := again k (by omega) acc (fun x hx => (hg x hx).1) hb
      have hl2 := known_len (jn (acc.map kS))
      have hml2 : (mkAll (known (jn (acc.map kS))).1).length ≤ 65536 := by rw [mkAll_len]; omega
      rw [if_pos (by omega), a1, Option.bind_some]
      simp only [if_true]
      rw [Same_B k _ _ a2 (by omega) (by omega), Option.bind_some, if_pos rfl, back_end k (by omega)]
    · rw [if_neg (by omega), back_end k (by omega)]
  | succ d ih =>
    intro k i acc h ha hg hk
    obtain ⟨k, rfl⟩ : ∃ q, k = q + 1 := ⟨k - 1, by omega⟩
    have hi : i < l.length := by omega
    have hs := hl.2 l[i] (List.getElem_mem hi)
    unfold colonnadelaw16_LexBack.l0
    obtain ⟨r, hr, h0⟩ := check_B k (by omega) l[i].f0 l[i].f1 l[i].f2 hs
    rw [if_pos (by omega), if_pos (by omega), if_pos (by omega), rdt l i hi, hr, Option.bind_some, w64_succ i (by omega)]
    by_cases g : r = 0
    · rw [if_pos g, if_pos (by omega)]
      refine ih k (i + 1) _ (by omega) (by rw [List.length_append, List.length_singleton]; omega) ?_ (by omega)
      intro x hx
      rcases List.mem_append.1 hx with hx | hx
      · exact hg x hx
      · rw [List.mem_singleton.1 hx]; exact ⟨h0 g, hs⟩
    · rw [if_neg g]
      exact ih k (i + 1) acc (by omega) (by omega) hg (by omega)
theorem LexBack (l : List Tok) (w : ByteArray) (w0 : l.length * 32 ≤ 33554432 ∧ ∀ x ∈ l, ((Lit.int .i64 x.f0).wf = true ∧ x.f1.size ≤ 33554432 ∧ (Lit.int .i64 x.f2).wf = true)) (_w1 : w.size ≤ 33554432) : ∃ k, colonnadelaw16_LexBack.f k l w = some true := by
  have hl : small l := ⟨by omega, fun x hx => (w0.2 x hx).2.1⟩
  refine ⟨600000000, ?_⟩
  have := hl.1
  unfold colonnadelaw16_LexBack.f
  rw [begun16 _ (by omega), Option.bind_some, if_pos rfl]
  exact back_loop l hl w l.length _ 0 [] (by omega) (by simp) (by simp) (by omega)
end Go.Proofs.YtmpamcfeijnafaaDoor.Pure
