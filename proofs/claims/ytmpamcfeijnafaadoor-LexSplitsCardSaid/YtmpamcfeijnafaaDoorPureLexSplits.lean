/- LexSplits: what the printed law computes is true, for any text. -/
import Derived.Test.YtmpamcfeijnafaaDoorPureLexJ
import Derived.Test.YtmpamcfeijnafaaDoorPureLexR
import Derived.Test.YtmpamcfeijnafaaDoorS3
import Derived.Test.YtmpamcfeijnafaaDoorS4
import Derived.Test.YtmpamcfeijnafaaDoorS8
import Derived.Test.YtmpamcfeijnafaaDoorS9
namespace Go.Proofs.YtmpamcfeijnafaaDoor.Pure
open Go.RowKit Go.Proofs.YtmpamcfeijnafaaDoor.S Go.Proofs.YtmpamcfeijnafaaDoorW.PrintWords Go.Proofs.YtmpamcfeijnafaaDoorW.PrintLast Go.Proofs.YtmpamcfeijnafaaDoor.Str Go.Proofs.YtmpamcfeijnafaaDoor.Lex

/-! the reference's join -/
def N (l : List UInt8) : List Int := l.map fun c => ((c.toNat : Nat) : Int)
theorem N_app (a b : List UInt8) : N (a ++ b) = N a ++ N b := by unfold N; rw [List.map_append]
theorem N_len (a : List UInt8) : (N a).length = a.length := by unfold N; rw [List.length_map]
theorem str_N (a : List UInt8) : strOfNums (N a) = B a := by
  rw [B_nums]
  unfold N
  rw [List.map_map]
  congr 1
  have : (a.map ((fun n : Int => UInt8.ofNat n.toNat) ∘ fun c : UInt8 => ((c.toNat : Nat) : Int))) = a.map id := List.map_congr_left (fun c _ => of_toNat c)
  rw [this, List.map_id]
theorem bt_s (s : ByteArray) (j : Nat) : bt s (j : Int) = ((s.data.toList.getD j 0).toNat : Int) := by
  have h := bt_B s.data.toList j
  rwa [← B_of s] at h
def pre : List (Int × List UInt8) → List UInt8
  | [] => []
  | x :: r => 32 :: jn (x :: r)
theorem jn_pre (x : Int × List UInt8) (r : List (Int × List UInt8)) : jn (x :: r) = txt x ++ pre r := by
  cases r with
  | nil => simp [jn, pre]
  | cons y r => rfl
theorem rjoin_l1 (L : List Tok) (i : Nat) (hi : i < L.length) (hl : L.length ≤ 65536) (hsz : L[i].f1.size ≤ 65536) : ∀ (e q j : Nat) (a : List UInt8), j + e = L[i].f1.size → a.length + 2 * e ≤ 100000000000000 →
    colonnaderef16_Join.l1 (q + e + 1) L (N a) (i : Int) (j : Int) = colonnaderef16_Join.l0 q L (N (a ++ dbl (L[i].f1.data.toList.drop j) ++ [39])) ((i + 1 : Nat) : Int) := by
  intro e
  induction e with
  | zero =>
    intro q j a h ha
    have hs := sizeL L[i].f1
    show colonnaderef16_Join.l1 (q + 1) L (N a) (i : Int) (j : Int) = _
    rw [colonnaderef16_Join.l1, if_pos (by omega), if_pos (by omega), rdt L i hi, if_neg (by omega), if_pos (by rw [N_len]; omega), w64_succ i (by omega), List.drop_of_length_le (by omega)]
    simp only [dbl, List.append_nil, N_app]
    rfl
  | succ e ih =>
    intro q j a h ha
    have hs := sizeL L[i].f1
    have hj : j < L[i].f1.data.toList.length := by omega
    rw [show q + (e + 1) + 1 = (q + e + 1) + 1 by omega, colonnaderef16_Join.l1, if_pos (by omega), if_pos (by omega), rdt L i hi, if_pos (by omega), if_pos (by omega), bt_s, w64_succ j (by omega)]
    rw [List.drop_eq_getElem_cons hj]
    have hg : L[i].f1.data.toList.getD j 0 = L[i].f1.data.toList[j] := by rw [List.getD_eq_getElem?_getD, List.getElem?_eq_getElem hj]; rfl
    rw [hg]
    generalize L[i].f1.data.toList[j] = c at *
    by_cases hc : c = 39
    · subst hc
      rw [if_pos (by decide), if_pos (by rw [N_len]; omega), Option.bind_some, if_pos (by rw [List.length_append, N_len, List.length_singleton]; omega)]
      have e1 : N a ++ [39] ++ [((39 : UInt8).toNat : Int)] = N (a ++ [39, 39]) := by rw [N_app, List.append_assoc]; rfl
      rw [e1, ih q (j + 1) (a ++ [39, 39]) (by omega) (by simp only [List.length_append, List.length_cons, List.length_nil]; omega)]
      simp [dbl]
    · have hc' : ¬ ((c.toNat : Int) = 39) := by
        intro g
        apply hc
        apply UInt8.toNat_inj.mp
        have : (39 : UInt8).toNat = 39 := rfl
        omega
      rw [if_neg hc', if_pos (by rw [N_len]; omega)]
      have e1 : N a ++ [((c.toNat : Nat) : Int)] = N (a ++ [c]) := by rw [N_app]; rfl
      rw [e1, ih q (j + 1) (a ++ [c]) (by omega) (by simp only [List.length_append, List.length_singleton]; omega)]
      simp [dbl, hc]
def small16 (L : List Tok) : Prop := L.length ≤ 65536 ∧ ∀ x ∈ L, x.f1.size ≤ 65536
set_option maxRecDepth 20000 in
theorem rjoin_l0 (L : List Tok) (hL : small16 L) : ∀ (d k i : Nat) (a : List UInt8), i + d = L.length → a.length ≤ 200000 * i → 70000 * d + 10 < k →
    colonnaderef16_Join.l0 k L (N a) (i : Int) = some (B (a ++ if i = 0 then jn ((L.drop i).map kS) else pre ((L.drop i).map kS))) := by
  have hl := hL.1
  intro d
  induction d with
  | zero =>
    intro k i a h ha hk
    obtain ⟨k, rfl⟩ : ∃ q, k = q + 1 := ⟨k - 1, by omega⟩
    rw [colonnaderef16_Join.l0, if_neg (by omega), str_N, List.drop_of_length_le (by omega)]
    simp [jn, pre]
  | succ d ih =>
    intro k i a h ha hk
    obtain ⟨k, rfl⟩ : ∃ q, k = q + 1 + 1 := ⟨k - 2, by omega⟩
    have hi : i < L.length := by omega
    have hx := hL.2 L[i] (List.getElem_mem hi)
    have hs := sizeL L[i].f1
    have hdb := dbl_le L[i].f1.data.toList
    have hdrop : (L.drop i).map kS = kS L[i] :: (L.drop (i + 1)).map kS := by rw [List.drop_eq_getElem_cons hi, List.map_cons]
    have hmul : 200000 * i ≤ 13107200000 := by omega
    have main : ∀ a1 : List UInt8, a1.length ≤ 200000 * i + 1 → colonnaderef16_Join.j1 (k + 1) L (N a1) (i : Int) = some (B (a1 ++ txt (kS L[i]) ++ pre ((L.drop (i + 1)).map kS))) := by
      intro a1 h1
      rw [colonnaderef16_Join.j1, if_pos (by omega), if_pos (by omega), rdt L i hi, w64_succ i (by omega)]
      by_cases h3 : L[i].f0 = 3
      · rw [if_pos h3, if_pos (by rw [N_len]; omega)]
        have e1 : N a1 ++ [39] = N (a1 ++ [39]) := by rw [N_app]; rfl
        obtain ⟨q, rfl⟩ : ∃ q, k = q + L[i].f1.size + 1 := ⟨k - L[i].f1.size - 1, by omega⟩
        have hl1 := rjoin_l1 L i hi hl hx L[i].f1.size q 0 (a1 ++ [39]) (by omega) (by simp only [List.length_append, List.length_singleton]; omega)
        rw [e1]
        rw [show ((0 : Nat) : Int) = 0 from rfl] at hl1
        rw [hl1, List.drop_zero, ih q (i + 1) _ (by omega) (by simp only [List.length_append, List.length_singleton]; omega) (by omega), if_neg (by omega)]
        unfold txt kS
        rw [if_pos h3]
        simp
      · rw [if_neg h3, if_pos (by rw [N_len]; omega)]
        have e1 : N a1 ++ bytesOf L[i].f1 = N (a1 ++ L[i].f1.data.toList) := by rw [N_app]; rfl
        rw [e1, ih k (i + 1) _ (by omega) (by simp only [List.length_append]; omega) (by omega), if_neg (by omega)]
        unfold txt kS
        rw [if_neg h3]
    rw [colonnaderef16_Join.l0, if_pos (by omega), hdrop]
    by_cases h0 : i = 0
    · rw [if_neg (by omega), main a (by omega), if_pos h0, jn_pre]
      simp
    · rw [if_pos (by omega), if_pos (by rw [N_len]; omega)]
      have e1 : N a ++ [32] = N (a ++ [32]) := by rw [N_app]; rfl
      rw [e1, main (a ++ [32]) (by simp only [List.length_append, List.length_singleton]; omega), if_neg h0, show pre (kS L[i] :: (L.drop (i + 1)).map kS) = 32 :: (txt (kS L[i]) ++ pre ((L.drop (i + 1)).map kS)) from by rw [← jn_pre]; rfl]
      simp
set_option maxRecDepth 20000 in
theorem rjoin_B (k : Nat) (hk : 5000000000 < k) (L : List Tok) (hL : small16 L) : colonnaderef16_Join.f k L = some (B (jn (L.map kS))) := by
  have hl := hL.1
  have := rjoin_l0 L hL L.length k 0 [] (by omega) (by simp) (by omega)
  unfold colonnaderef16_Join.f
  rw [if_pos rfl] at this
  exact this

/-! the statements of a list of tokens -/
def semi (x : Tok) : Bool := decide (x.f0 = 4) && (x.f1.toList == [59])
def sgs : List Tok → List Tok → List (List Tok)
  | cur, [] => [cur]
  | cur, x :: r => if semi x then cur :: sgs [] r else sgs (cur ++ [x]) r
def tB2 (s : List Tok) : ByteArray := B (jn (s.map kS))
def outs : List (List Tok) → List ByteArray
  | [] => []
  | s :: r => if s = [] then outs r else tB2 s :: outs r
def fi : List Tok → Option Nat
  | [] => none
  | x :: r => if semi x then some 0 else (fi r).map (· + 1)
theorem fi_none : ∀ (L cur : List Tok), fi L = none → sgs cur L = [cur ++ L]
  | [], cur, _ => by simp [sgs]
  | x :: r, cur, h => by
    unfold fi at h
    by_cases hs : semi x = true
    · rw [if_pos hs] at h; cases h
    · rw [if_neg hs] at h
      rw [sgs, if_neg hs, fi_none r _ (by simpa using h)]
      simp
theorem fi_some : ∀ (L cur : List Tok) (j : Nat), fi L = some j → j < L.length ∧ sgs cur L = (cur ++ L.take j) :: sgs [] (L.drop (j + 1))
  | [], cur, j, h => by simp [fi] at h
  | x :: r, cur, j, h => by
    unfold fi at h
    by_cases hs : semi x = true
    · rw [if_pos hs] at h
      obtain rfl := Option.some.inj h
      exact ⟨by simp, by rw [sgs, if_pos hs]; simp⟩
    · rw [if_neg hs] at h
      cases e : fi r with
      | none => rw [e] at h; cases h
      | some j' =>
        rw [e] at h
        simp only [Option.map_some, Option.some.injEq] at h
        subst h
        obtain ⟨h1, h2⟩ := fi_some r (cur ++ [x]) j' e
        exact ⟨by rw [List.length_cons]; omega, by rw [sgs, if_neg hs, h2]; simp⟩
theorem semi_B (x : Tok) : lex_Split_1.f x.f0 x.f1 x.f2 = some (semi x) := by
  unfold lex_Split_1.f semi
  by_cases h : x.f0 = 4
  · rw [if_pos h]; simp [h]
  · rw [if_neg h]; simp [h]
def fiV (i : Nat) : Option Nat → Int
  | none => -1
  | some j => ((i + j : Nat) : Int)
theorem fi_loop (L : List Tok) (hl : L.length ≤ 10000000) : ∀ (d k i : Nat), i + d = L.length → d < k → api_Token.l0 k L (L.length : Int) (i : Int) = some (fiV i (fi (L.drop i))) := by
  intro d
  induction d with
  | zero =>
    intro k i h hk
    obtain ⟨k, rfl⟩ : ∃ q, k = q + 1 := ⟨k - 1, by omega⟩
    unfold api_Token.l0
    rw [if_neg (by omega), List.drop_of_length_le (by omega)]
    rfl
  | succ d ih =>
    intro k i h hk
    obtain ⟨k, rfl⟩ : ∃ q, k = q + 1 := ⟨k - 1, by omega⟩
    have hi : i < L.length := by omega
    unfold api_Token.l0
    rw [if_pos (by omega), if_pos (by omega), if_pos (by omega), rdt L i hi, semi_B, Option.bind_some, w64_succ i (by omega), List.drop_eq_getElem_cons hi, fi]
    by_cases hs : semi L[i] = true
    · rw [if_pos hs, if_pos hs]; rfl
    · rw [if_neg hs, if_neg hs, ih k (i + 1) (by omega) (by omega)]
      cases fi (L.drop (i + 1)) with
      | none => rfl
      | some j => simp only [fiV, Option.map_some]; congr 2; omega
theorem fi_B (k : Nat) (L : List Tok) (hl : L.length ≤ 10000000) (hk : L.length < k) : api_Token.f k L = some (fiV 0 (fi L)) := by
  have := fi_loop L hl L.length k 0 (by omega) hk
  unfold api_Token.f
  rw [show (0 : Int) = ((0 : Nat) : Int) from rfl, this, List.drop_zero]
theorem small_of {L M : List Tok} (h : small16 L) (hm : ∀ x ∈ M, x ∈ L) (hl : M.length ≤ L.length) : small16 M := ⟨by have := h.1; omega, fun x hx => h.2 x (hm x hx)⟩
theorem small_up {L : List Tok} (h : small16 L) : small L := ⟨by have := h.1; omega, fun x hx => by have := h.2 x hx; omega⟩
theorem mn_nat (a b : Nat) : mn ((a : Nat) : Int) ((b : Nat) : Int) = ((min a b : Nat) : Int) := by
  unfold mn
  split <;> omega
theorem lsplit_loop : ∀ (n : Nat) (L : List Tok) (k : Nat) (out : List ByteArray), L.length ≤ n → small16 L → out.length + L.length ≤ 1000000 → n + 100000 < k →
    lex_Split.l0 k L out = some (out ++ outs (sgs [] L), 0, 0) := by
  intro n
  induction n using Nat.strongRecOn with
  | _ n ih =>
  intro L k out h1 hL ho hk
  have hl := hL.1
  obtain ⟨k, rfl⟩ : ∃ q, k = q + 1 := ⟨k - 1, by omega⟩
  unfold lex_Split.l0
  by_cases h0 : L = []
  · subst h0
    rw [if_neg (by simp)]
    simp [sgs, outs]
  · have hpos : 0 < L.length := List.length_pos_iff.2 h0
    rw [if_pos (by omega), fi_B k L (by omega) (by omega), Option.bind_some]
    cases hf : fi L with
    | none =>
      have hsg := fi_none L [] hf
      rw [show fiV 0 none = -1 from rfl, if_pos (by decide), if_pos (by omega), if_pos (by omega), Int.toNat_natCast, List.take_length, join_B k L (small_up hL) (by omega), Option.bind_some, if_pos (by omega), w64_succ _ (by omega), mn_nat, if_pos (by omega), if_pos (by omega), Int.toNat_natCast]
      have hd : L.drop (min (L.length + 1) L.length) = [] := List.drop_of_length_le (by omega)
      rw [hd, ih 0 (by omega) [] k _ (by simp) ⟨by simp, fun x hx => by cases hx⟩ (by simp only [List.length_append, List.length_singleton, List.length_nil]; omega) (by omega), hsg]
      simp [sgs, outs, h0, tB2]
    | some j =>
      obtain ⟨hj, hsg⟩ := fi_some L [] j hf
      rw [show fiV 0 (some j) = ((j : Nat) : Int) from by simp [fiV]]
      have hmn : min (j + 1) L.length = j + 1 := by omega
      have hdl : (L.drop (j + 1)).length = L.length - (j + 1) := List.length_drop
      have hsd : small16 (L.drop (j + 1)) := small_of hL (fun x hx => List.mem_of_mem_drop hx) (by omega)
      rw [if_neg (by omega), hsg]
      by_cases hz : j = 0
      · subst hz
        rw [if_neg (by omega), w64_succ _ (by omega), mn_nat, hmn, if_pos (by omega), if_pos (by omega), Int.toNat_natCast, ih (n - 1) (by omega) _ k out (by omega) hsd (by omega) (by omega)]
        simp [outs]
      · have hst : small16 (L.take j) := small_of hL (fun x hx => List.mem_of_mem_take hx) (by rw [List.length_take]; omega)
        have hne : L.take j ≠ [] := by
          intro e
          have := congrArg List.length e
          rw [List.length_take, List.length_nil] at this
          omega
        rw [if_pos (by omega), if_pos (by omega), if_pos (by omega), Int.toNat_natCast, join_B k (L.take j) (small_up hst) (by rw [List.length_take]; omega), Option.bind_some, if_pos (by omega), w64_succ _ (by omega), mn_nat, hmn, if_pos (by omega), if_pos (by omega), Int.toNat_natCast, ih (n - 1) (by omega) _ k _ (by omega) hsd (by simp only [List.length_append, List.length_singleton]; omega) (by omega)]
        simp [outs, hne, tB2]
theorem rsplit_loop (L : List Tok) (hL : small16 L) : ∀ (d k i from_ : Nat) (out : List ByteArray), i + d = L.length → from_ ≤ i → out.length ≤ i → 5000000000 + 3 * d + 10 < k →
    colonnaderef16_Split.l0 k L out (from_ : Int) (i : Int) = some (out ++ outs (sgs ((L.take i).drop from_) (L.drop i)), 0, 0) := by
  have hl := hL.1
  have hcut : ∀ i from_, small16 ((L.take i).drop from_) := fun i from_ => small_of hL (fun x hx => List.mem_of_mem_take (List.mem_of_mem_drop hx)) (by rw [List.length_drop, List.length_take]; omega)
  have hcl : ∀ i from_, i ≤ L.length → ((L.take i).drop from_).length = i - from_ := fun i from_ h => by rw [List.length_drop, List.length_take]; omega
  have hj : ∀ (k i from_ : Nat) (out : List ByteArray), i ≤ L.length → from_ ≤ i → out.length ≤ i → 5000000000 < k →
      colonnaderef16_Split.j1 (k + 1) L out (from_ : Int) (i : Int) true = colonnaderef16_Split.l0 k L (out ++ outs [(L.take i).drop from_]) ((i + 1 : Nat) : Int) ((i + 1 : Nat) : Int) := by
    intro k i from_ out h1 h2 h3 hk
    have hc := hcl i from_ h1
    rw [colonnaderef16_Split.j1, if_pos rfl, w64_succ i (by omega)]
    by_cases g : from_ < i
    · rw [if_pos (by omega), if_pos (by omega), if_pos (by omega), if_pos (by omega), Int.toNat_natCast, Int.toNat_natCast, rjoin_B k hk _ (hcut i from_), Option.bind_some, if_pos (by omega)]
      have hne : (L.take i).drop from_ ≠ [] := by intro e; rw [e] at hc; simp at hc; omega
      simp [outs, hne, tB2]
    · rw [if_neg (by omega)]
      have hne : (L.take i).drop from_ = [] := List.eq_nil_of_length_eq_zero (by omega)
      simp [outs, hne]
  intro d
  induction d with
  | zero =>
    intro k i from_ out h1 h2 h3 hk
    obtain ⟨k, rfl⟩ : ∃ q, k = q + 1 + 1 + 1 := ⟨k - 3, by omega⟩
    rw [colonnaderef16_Split.l0, if_pos (by omega), if_pos (by omega), hj (k + 1) i from_ out (by omega) h2 h3 (by omega), colonnaderef16_Split.l0, if_neg (by omega), List.drop_of_length_le (show L.length ≤ i by omega)]
    rfl
  | succ d ih =>
    intro k i from_ out h1 h2 h3 hk
    obtain ⟨k, rfl⟩ : ∃ q, k = q + 1 + 1 := ⟨k - 2, by omega⟩
    have hi : i < L.length := by omega
    have hstep : colonnaderef16_Split.l0 (k + 1 + 1) L out (from_ : Int) (i : Int) = colonnaderef16_Split.j1 (k + 1) L out (from_ : Int) (i : Int) (semi L[i]) := by
      rw [colonnaderef16_Split.l0, if_pos (by omega), if_neg (by omega), if_pos (by omega), if_pos (by omega), rdt L i hi]
      unfold semi
      by_cases g : L[i].f0 = 4
      · rw [if_pos g]; simp [g]
      · rw [if_neg g]; simp [g]
    rw [hstep, List.drop_eq_getElem_cons hi, sgs]
    by_cases hs : semi L[i] = true
    · rw [hs, if_pos rfl, hj k i from_ out (by omega) h2 h3 (by omega)]
      have ho : (outs [(L.take i).drop from_]).length ≤ 1 := by unfold outs; split <;> simp [outs]
      rw [ih k (i + 1) (i + 1) _ (by omega) (by omega) (by rw [List.length_append]; omega) (by omega)]
      have e1 : (L.take (i + 1)).drop (i + 1) = [] := List.drop_of_length_le (by rw [List.length_take]; omega)
      rw [e1]
      by_cases hc : (L.take i).drop from_ = [] <;> simp [outs, hc]
    · have hs' : semi L[i] = false := by simpa using hs
      rw [hs', if_neg (by decide), colonnaderef16_Split.j1, if_neg (by decide), w64_succ i (by omega), ih k (i + 1) from_ out (by omega) (by omega) (by omega) (by omega)]
      have e1 : (L.take (i + 1)).drop from_ = (L.take i).drop from_ ++ [L[i]] := by
        rw [List.take_succ_eq_append_getElem hi, List.drop_append_of_le_length (by rw [List.length_take]; omega)]
      rw [e1]
theorem Equal_loop (L : List ByteArray) (hl : L.length ≤ 10000000) : ∀ (d k i : Nat), i + d = L.length → d < k → slices_Equal_string_string.l0 k L L (L.length : Int) (i : Int) = some true := by
  intro d
  induction d with
  | zero =>
    intro k i h hk
    obtain ⟨k, rfl⟩ : ∃ q, k = q + 1 := ⟨k - 1, by omega⟩
    unfold slices_Equal_string_string.l0
    rw [if_neg (by omega)]
  | succ d ih =>
    intro k i h hk
    obtain ⟨k, rfl⟩ : ∃ q, k = q + 1 := ⟨k - 1, by omega⟩
    unfold slices_Equal_string_string.l0
    rw [if_pos (by omega), if_pos (by omega), if_pos (by omega), if_pos (by omega), if_pos rfl, w64_succ i (by omega), ih k (i + 1) (by omega) (by omega)]
theorem outs_len : ∀ l : List (List Tok), (outs l).length ≤ l.length
  | [] => by simp [outs]
  | s :: r => by
    have := outs_len r
    unfold outs
    split <;> simp only [List.length_cons] <;> omega
theorem sgs_len : ∀ (L cur : List Tok), (sgs cur L).length ≤ L.length + 1
  | [], cur => by simp [sgs]
  | x :: r, cur => by
    have h1 := sgs_len r []
    have h2 := sgs_len r (cur ++ [x])
    unfold sgs
    split <;> simp only [List.length_cons] <;> omega
theorem known_small16 (l : List UInt8) (h : l.length ≤ 65536) : small16 (mkAll (known l).1) := by
  have h1 := known_len l
  refine ⟨by rw [mkAll_len]; omega, fun x hx => ?_⟩
  obtain ⟨y, hy, rfl⟩ := List.mem_map.1 hx
  have := toks_small (l.length + 1) (l.drop (sp false l)) (sp false l) 65536 (by rw [List.length_drop]; omega) (by omega) y hy
  show (B y.2.1).size ≤ _
  rw [B_size]; omega
/-- what both say -/
def splitV (l : List UInt8) : List ByteArray × Int × Int := if (tokV l).2.2 = 0 then (outs (sgs [] (tokV l).1), 0, 0) else ([], (tokV l).2.1, (tokV l).2.2)
theorem tokV_ok (l : List UInt8) (h : (tokV l).2.2 = 0) : small16 (tokV l).1 := by
  unfold tokV at h ⊢
  by_cases hl : l.length > 65536
  · rw [if_pos hl] at h; exact absurd h (by decide)
  · rw [if_neg hl] at h ⊢
    cases hn : (known l).2 with
    | some p => rw [hn] at h; exact absurd (show (160 : Int) = 0 from h) (by decide)
    | none => exact known_small16 l (by omega)
theorem lsplit_B (k : Nat) (hk : 6000000000 ≤ k) (l : List UInt8) : lex_Split.f k (B l) = some (splitV l) := by
  unfold lex_Split.f splitV
  rw [lexTokens_B k (by omega), Option.bind_some]
  by_cases h : (tokV l).2.2 = 0
  · have hs := tokV_ok l h
    have := hs.1
    rw [if_pos h, if_pos h, lsplit_loop (tokV l).1.length _ k [] (Nat.le_refl _) hs (by simp; omega) (by omega), List.nil_append]
  · rw [if_neg h, if_neg h]
theorem rsplit_B (k : Nat) (hk : 6000000000 ≤ k) (l : List UInt8) : colonnaderef16_Split.f k (B l) = some (splitV l) := by
  unfold colonnaderef16_Split.f splitV
  rw [rTokens_B k (by omega), Option.bind_some]
  by_cases h : (tokV l).2.2 = 0
  · have hs := tokV_ok l h
    have := hs.1
    have hr := rsplit_loop (tokV l).1 hs (tokV l).1.length k 0 0 [] (by omega) (by omega) (by simp) (by omega)
    simp only [List.nil_append, List.take_zero, List.drop_zero, List.drop_nil] at hr
    rw [if_pos h, if_pos h]
    exact hr
  · rw [if_neg h, if_neg h]
theorem LexSplits (a0 : ByteArray) (_w0 : a0.size ≤ 140737488351232) : ∃ k, colonnadelaw16_LexSplits.f k a0 = some true := by
  refine ⟨6000000000, ?_⟩
  unfold colonnadelaw16_LexSplits.f
  have hb := B_of a0
  generalize a0.data.toList = l at hb
  subst hb
  have hlen : (splitV l).1.length ≤ 65537 := by
    unfold splitV
    by_cases h : (tokV l).2.2 = 0
    · rw [if_pos h]
      have h1 := outs_len (sgs [] (tokV l).1)
      have h2 := sgs_len (tokV l).1 []
      have h3 := tokV_len l
      show (outs (sgs [] (tokV l).1)).length ≤ _
      omega
    · rw [if_neg h]; simp
  rw [lsplit_B _ (by omega), rsplit_B _ (by omega), begun16 _ (by omega)]
  simp only [Option.bind_some, if_true]
  have he : slices_Equal_string_string.f 6000000000 (splitV l).1 (splitV l).1 = some true := by
    unfold slices_Equal_string_string.f
    rw [if_pos rfl]
    exact Equal_loop (splitV l).1 (by omega) (splitV l).1.length 6000000000 0 (by omega) (by omega)
  rw [he]
  simp
end Go.Proofs.YtmpamcfeijnafaaDoor.Pure
