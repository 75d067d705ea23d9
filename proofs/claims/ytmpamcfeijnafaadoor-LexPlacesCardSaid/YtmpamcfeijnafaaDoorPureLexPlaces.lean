/- LexPlaces: what the law's walk asks is so, for any text. -/
import Derived.Test.YtmpamcfeijnafaaDoorPureLexJ
import Derived.Test.YtmpamcfeijnafaaDoorLexTake
import Derived.Test.YtmpamcfeijnafaaDoorPlacesLaw
import Derived.Test.YtmpamcfeijnafaaDoorP3
namespace Go.Proofs.YtmpamcfeijnafaaDoor.Pure
open Go.RowKit Go.Proofs.YtmpamcfeijnafaaDoor.P Go.Proofs.YtmpamcfeijnafaaDoor.Iter Go.Proofs.YtmpamcfeijnafaaDoorW.PrintWords Go.Proofs.YtmpamcfeijnafaaDoorW.PrintLast Go.Proofs.YtmpamcfeijnafaaDoor.Str Go.Proofs.YtmpamcfeijnafaaDoor.Lex
theorem sameP_loop (L : List S25) (hL : L.length ≤ 10000000) : ∀ (d k i : Nat), i + d = L.length → d < k → api_Token.l0 k L L (L.length : Int) (i : Int) = some true := by
  intro d
  induction d with
  | zero =>
    intro k i h hk
    obtain ⟨k, rfl⟩ : ∃ q, k = q + 1 := ⟨k - 1, by omega⟩
    unfold api_Token.l0
    rw [if_neg (by omega)]
  | succ d ih =>
    intro k i h hk
    obtain ⟨k, rfl⟩ : ∃ q, k = q + 1 := ⟨k - 1, by omega⟩
    unfold api_Token.l0
    rw [if_pos (by omega), if_pos (by omega), if_pos (by omega), if_pos (by omega), if_neg (by simp), w64_succ i (by omega), ih k (i + 1) (by omega) (by omega)]
theorem sameP_B (k : Nat) (L : List S25) (hL : L.length ≤ 10000000) (hk : L.length < k) : api_Token.f k L L = some true := by
  unfold api_Token.f
  rw [if_pos rfl]
  exact sameP_loop L hL L.length k 0 (by omega) hk
theorem allP_B (k : Nat) (hk : 400000 < k) (l : List UInt8) (h : l.length ≤ 65536) : allOf k (B l) = some (mkAll (known l).1) := by
  unfold allOf
  rw [if_neg (by rw [B_size]; omega), lexknown_B k l (by omega) (by omega)]
  rfl
theorem asc_placed : ∀ (l : List (Int × List UInt8 × Nat)) (z : Int) (n : Nat), placed z n l → placesLaw.asc z (mkAll l) = true
  | [], _, _, _ => rfl
  | x :: l, z, n, h => by
    obtain ⟨h1, h2, h3⟩ := h
    have e : mkAll (x :: l) = mk x :: mkAll l := rfl
    rw [e]
    unfold placesLaw.asc
    have ef : (mk x).f2 = (x.2.2 : Int) := rfl
    rw [ef, decide_eq_true h1, asc_placed l _ n h3]
    rfl
theorem in_placed : ∀ (l : List (Int × List UInt8 × Nat)) (z : Int) (n : Nat), placed z n l → ∀ x ∈ l, x.2.2 < n
  | [], _, _, _, x, hx => by cases hx
  | y :: l, z, n, h, x, hx => by
    obtain ⟨h1, h2, h3⟩ := h
    rcases List.mem_cons.1 hx with rfl | hx
    · exact h2
    · exact in_placed l _ n h3 x hx
theorem last_mk : ∀ (l : List (Int × List UInt8 × Nat)) (z : Int), placesLaw.last z (mkAll l) = lastOf z l
  | [], _ => rfl
  | x :: l, z => last_mk l (x.2.2 : Int)
theorem check_known (k : Nat) (hk : 400000000 ≤ k) (l : List UInt8) (hl : l.length ≤ 65536) (x : Int × List UInt8 × Nat) (hx : x ∈ (known l).1) : lex_Check.f k (mk x).f0 (mk x).f1 (mk x).f2 = some 0 := by
  have hg : good (kt x) := known_good _ _ _ x hx
  have hs := toks_small (l.length + 1) (l.drop (sp false l)) (sp false l) 65536 (by rw [List.length_drop]; omega) (by omega) x hx
  have hsz : (mk x).f1.size ≤ 65536 := by show (B x.2.1).size ≤ _; rw [B_size]; exact hs
  have hsm : small [mk x] := ⟨by simp, fun y hy => by rw [List.mem_singleton.1 hy]; omega⟩
  have hj := join_B k [mk x] hsm (by simp; omega)
  have e : jn ([mk x].map kS) = txt (kt x) := by rw [List.map_singleton, kS_mk]; rfl
  rw [e] at hj
  have ht := txt_le (kt x)
  have ht' : (txt (kt x)).length ≤ 200000 := by
    have : (kt x).2 = x.2.1 := rfl
    rw [this] at ht
    omega
  have hkn := chk_known hg
  have e0 : (⟨(mk x).f0, (mk x).f1, (mk x).f2⟩ : Tok) = mk x := rfl
  unfold lex_Check.f
  rw [e0, hj, Option.bind_some, lexknown_B k _ (by omega) (by omega), Option.bind_some, hkn]
  have c1 : rd_T25 (mkAll [((kt x).1, (kt x).2, 0)]) 0 = mk ((kt x).1, (kt x).2, 0) := rfl
  have c2 : (mk ((kt x).1, (kt x).2, 0)).f0 = (mk x).f0 := rfl
  have c3 : (mk ((kt x).1, (kt x).2, 0)).f1 = (mk x).f1 := rfl
  simp only [at1]
  have c4 : ((mkAll [((kt x).1, (kt x).2, 0)]).length : Int) = 1 := rfl
  rw [if_neg (by decide), if_pos c4, if_pos (by rw [c4]; decide), c1, if_pos c2, if_pos (by rw [c3])]
theorem LexPlaces (a0 : ByteArray) (_w0 : a0.size ≤ 140737488351232) : ∃ k, placesLaw.f k a0 = some true := by
  refine ⟨500000000, ?_⟩
  have eb := B_of a0
  generalize a0.data.toList = l at eb
  subst eb
  unfold placesLaw.f
  rw [if_pos (begun16 _ (by omega)), B_size]
  by_cases hz : l.length ≤ 65536
  · rw [if_pos hz, allP_B _ (by omega) l hz, Option.bind_some, if_pos]
    have hp := known_placed l
    have hlen := known_len l
    have hml : (mkAll (known l).1).length ≤ 65536 := by rw [mkAll_len]; omega
    refine ⟨?_, ?_, asc_placed _ _ _ hp, hml, ?_⟩
    · rw [List.all_eq_true]
      intro y hy
      obtain ⟨x, hx, rfl⟩ := List.mem_map.1 hy
      rw [check_known _ (by omega) l hz x hx]
      rfl
    · rw [List.all_eq_true]
      intro y hy
      obtain ⟨x, hx, rfl⟩ := List.mem_map.1 hy
      have := in_placed _ _ _ hp x hx
      have ef : (mk x).f2 = (x.2.2 : Int) := rfl
      rw [ef]
      exact decide_eq_true (by omega)
    · unfold placesLaw.fin
      rw [lexTokens_B _ (by omega)]
      unfold tokV
      rw [if_neg (by omega)]
      cases hn : (known l).2 with
      | none =>
        simp only
        rw [if_pos trivial, sameP_B _ _ (by omega) (by omega)]
        rfl
      | some p =>
        simp only
        obtain ⟨hp1, hp2⟩ := known_tk hn
        have hlast := known_last hn
        have hex : (B l).extract 0 (p : Int).toNat = B (l.take p) := by rw [Int.toNat_natCast, B_extract, List.drop_zero]
        rw [if_neg (by decide), hex, lexTokens_B _ (by omega)]
        unfold tokV
        rw [if_neg (by rw [List.length_take]; omega), hp2]
        simp only
        rw [sameP_B _ _ (by omega) (by omega), last_mk, B_size, decide_eq_true hlast, decide_eq_true (show (0 : Int) ≤ (p : Int) by omega), decide_eq_true (show (p : Int) < ((l.length : Nat) : Int) by omega)]
        rfl
  · rw [if_neg hz]
end Go.Proofs.YtmpamcfeijnafaaDoor.Pure
