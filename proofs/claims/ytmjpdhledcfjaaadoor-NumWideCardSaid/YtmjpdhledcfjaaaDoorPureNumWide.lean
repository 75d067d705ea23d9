/- NumWide: what the printed law computes is true, for every two whole numbers of 64 bits and every list of wide numbers that a slice can hold. -/
import Derived.Test.YtmjpdhledcfjaaaDoorPureNumGathers
import Derived.Test.YtmjpdhledcfjaaaDoorR15
import Derived.Test.YtmjpdhledcfjaaaDoorR16
import Derived.Test.YtmjpdhledcfjaaaDoorR17
import Derived.Test.YtmjpdhledcfjaaaDoorR18
import Derived.Test.YtmjpdhledcfjaaaDoorR19
import Derived.Test.YtmjpdhledcfjaaaDoorR5
namespace Go.Proofs.YtmjpdhledcfjaaaDoor.Pure
open Go.RowKit Go.Proofs.YtmjpdhledcfjaaaDoor.R Go.Proofs.YtmjpdhledcfjaaaDoorW.PrintWords Go.Proofs.YtmjpdhledcfjaaaDoorW.PrintLast Go.Proofs.YtmjpdhledcfjaaaDoor.Wide

theorem WideOf_same {a : Int} (ha : In64 a) : ∃ r, num_WideOf.f a = some r ∧ colonnaderef01_WideOf.f a = some r := by
  obtain ⟨h1, h2⟩ := ha
  unfold num_WideOf.f colonnaderef01_WideOf.f
  by_cases c : a < 0
  · rw [if_pos c]; exact ⟨_, by congr 2; omega, rfl⟩
  · rw [if_neg c]; exact ⟨_, by congr 2; omega, rfl⟩

theorem refWideMul_is {a b : Int} (ha : In64 a) (hb : In64 b) : ∃ h l, colonnaderef01_WideMul.f a b = some (h, l) ∧ In64 h ∧ InU l ∧ h * 18446744073709551616 + l = a * b := by
  obtain ⟨m, em, mu, mb, ma⟩ := amount_is a ha
  obtain ⟨n, en, nu, nb, na⟩ := amount_is b hb
  obtain ⟨eq2, g0, g1, l0, l1⟩ := hilo m n mu.1 mu.2 nu.1 nu.2
  have pb := prod_bd ha hb
  have emn : m * n = if (a < 0) = (b < 0) then a * b else -(a * b) := by
    rw [ma, na]
    by_cases c1 : a < 0 <;> by_cases c2 : b < 0 <;> simp [c1, c2, Int.neg_mul, Int.mul_neg]
  unfold colonnaderef01_WideMul.f
  rw [em, en]
  simp only [Option.bind_some]
  rw [product_is mu nu]
  simp only [Option.bind_some]
  obtain ⟨H, hH⟩ : ∃ z, z = hi m n := ⟨_, rfl⟩
  obtain ⟨L, hL⟩ : ∃ z, z = lo m n := ⟨_, rfl⟩
  rw [← hH, ← hL] at eq2 ⊢
  rw [← hH] at g0 g1
  rw [← hL] at l0 l1
  rw [emn] at eq2
  clear emn hH hL em en ma na mu nu mb nb
  obtain ⟨P, hP⟩ : ∃ z, z = a * b := ⟨_, rfl⟩
  rw [← hP] at eq2 pb ⊢
  clear hP
  rw [xor_max g0 g1]
  by_cases s : (a < 0) = (b < 0)
  · rw [if_pos s] at eq2
    have sg : (decide (a < 0) == decide (b < 0)) = true := by
      by_cases c1 : a < 0 <;> by_cases c2 : b < 0 <;> simp [c1, c2] at s ⊢
    rw [if_pos sg]
    refine ⟨_, _, rfl, ?_, ?_, ?_⟩ <;> simp only [In64, InU, w64_mod] <;> omega
  · rw [if_neg s] at eq2
    have sg : ¬ (decide (a < 0) == decide (b < 0)) = true := by
      by_cases c1 : a < 0 <;> by_cases c2 : b < 0 <;> simp [c1, c2] at s ⊢
    rw [if_neg sg]
    by_cases z : IntKind.u64.wrap (-L) = 0
    · rw [if_pos z]
      rw [IntKind.wrap_u64] at z
      refine ⟨_, _, rfl, ?_, ?_, ?_⟩ <;> simp only [In64, InU, w64_mod, IntKind.wrap_u64] <;> omega
    · rw [if_neg z]
      rw [IntKind.wrap_u64] at z
      refine ⟨_, _, rfl, ?_, ?_, ?_⟩ <;> simp only [In64, InU, w64_mod, IntKind.wrap_u64] <;> omega

theorem WideMul_same {a b : Int} (ha : In64 a) (hb : In64 b) : ∃ r, num_WideMul.f a b = some r ∧ colonnaderef01_WideMul.f a b = some r := by
  obtain ⟨h, l, e, ⟨h1, h2⟩, ⟨l1, l2⟩, q⟩ := WideMul_is ha hb
  obtain ⟨h', l', e', ⟨h1', h2'⟩, ⟨l1', l2'⟩, q'⟩ := refWideMul_is ha hb
  refine ⟨_, e, ?_⟩
  rw [e']
  congr 2 <;> omega

def Wf (x : S31) : Prop := In64 x.f0 ∧ InU x.f1
theorem rdw (L : List S31) (i : Nat) (h : i < L.length) : rd_T31 L (i : Int) = L[i] := by
  simp [rd_T31, h]

theorem WideAdd_loop (L : List S31) (hL : ∀ x ∈ L, Wf x) (hn : L.length ≤ 17592186043904) : ∀ (d k i : Nat) (H Lo hi : Int), i + d = L.length → d + 2 < k → InU hi → InU Lo → H = wrap64 hi →
    ∃ r, num_WideAdd.l0 k L (L.length : Int) (i : Int) H Lo = some r ∧ colonnaderef01_WideAdd.l0 k L hi Lo (i : Int) = some r := by
  intro d
  induction d with
  | zero =>
    intro k i H Lo hi hi' hk a b e
    obtain ⟨k, rfl⟩ : ∃ j, k = j + 1 := ⟨k - 1, by omega⟩
    obtain rfl : i = L.length := by omega
    refine ⟨(H, Lo), add_end k L _ H Lo, ?_⟩
    simp only [colonnaderef01_WideAdd.l0]
    rw [if_neg (by omega), e]
  | succ d ih =>
    intro k i H Lo hi hi' hk a b e
    obtain ⟨k, rfl⟩ : ∃ j, k = j + 1 := ⟨k - 1, by omega⟩
    have hlt : i < L.length := by omega
    have p1 : (i : Int) < (L.length : Int) := Int.ofNat_lt.2 hlt
    have p2 : (0 : Int) ≤ (i : Int) := Int.natCast_nonneg i
    have wx : Wf L[i] := hL _ (List.getElem_mem hlt)
    have st := add_step k L (L.length : Int) (i : Int) H Lo L[i] p2 p1 p1 (rdw L i hlt)
    rw [idx_next i L.length hlt hn] at st
    have st2 : colonnaderef01_WideAdd.l0 (k + 1) L hi Lo (i : Int) = colonnaderef01_WideAdd.l0 k L (if IntKind.u64.wrap (Lo + (L[i]).f1) < Lo then IntKind.u64.wrap (IntKind.u64.wrap (hi + IntKind.u64.wrap (L[i]).f0) + 1) else IntKind.u64.wrap (hi + IntKind.u64.wrap (L[i]).f0)) (IntKind.u64.wrap (Lo + (L[i]).f1)) ((i + 1 : Nat) : Int) := by
      simp only [colonnaderef01_WideAdd.l0]
      rw [if_pos p1, if_pos p2, rdw L i hlt, idx_next i L.length hlt hn]
      split <;> rfl
    rw [st, st2]
    obtain ⟨⟨x1, x2⟩, ⟨x3, x4⟩⟩ := wx
    obtain ⟨a1, a2⟩ := a
    obtain ⟨b1, b2⟩ := b
    clear st st2 p1 p2
    have cond : (IntKind.u64.wrap (Lo + (L[i]).f1) < (L[i]).f1) = (IntKind.u64.wrap (Lo + (L[i]).f1) < Lo) := by
      rw [IntKind.wrap_u64]; apply propext; omega
    simp only [cond]
    refine ih k (i + 1) _ _ _ (by omega) (by omega) ?_ ⟨by rw [IntKind.wrap_u64]; omega, by rw [IntKind.wrap_u64]; omega⟩ ?_
    · split <;> exact ⟨by rw [IntKind.wrap_u64]; omega, by rw [IntKind.wrap_u64]; omega⟩
    · rw [e]
      split <;> simp only [w64_mod, IntKind.wrap_u64] <;> omega

theorem WideAdd_same (L : List S31) (hL : ∀ x ∈ L, Wf x) (hn : L.length ≤ 17592186043904) (k : Nat) (hk : L.length + 2 < k) : ∃ r, num_WideAdd.f k L = some r ∧ colonnaderef01_WideAdd.f k L = some r := by
  unfold num_WideAdd.f colonnaderef01_WideAdd.f
  exact WideAdd_loop L hL hn L.length k 0 0 0 0 (by omega) hk ⟨by omega, by omega⟩ ⟨by omega, by omega⟩ (by rw [w64_mod]; omega)

theorem Narrow_same (x : S31) (h : Wf x) : ∃ r, num_Narrow.f x.f0 x.f1 = some r ∧ colonnaderef01_Narrow.f x.f0 x.f1 = some r := by
  obtain ⟨⟨h1, h2⟩, ⟨h3, h4⟩⟩ := h
  unfold num_Narrow.f colonnaderef01_Narrow.f colonnaderef01_WideOf.f
  simp only [w64_mod, IntKind.wrap_u64]
  obtain ⟨H, hH⟩ : ∃ z, z = x.f0 := ⟨_, rfl⟩
  obtain ⟨Lo, hLo⟩ : ∃ z, z = x.f1 := ⟨_, rfl⟩
  rw [← hH] at h1 h2 ⊢
  rw [← hLo] at h3 h4 ⊢
  by_cases c : (Lo + 9223372036854775808) % 18446744073709551616 - 9223372036854775808 < 0
  · rw [if_pos c]
    simp only [Option.bind_some]
    by_cases d : H = -1
    · rw [if_pos (by omega), if_neg (by simp; omega)]; exact ⟨_, rfl, rfl⟩
    · rw [if_neg (by omega), if_pos (by simp; omega)]; exact ⟨_, rfl, rfl⟩
  · rw [if_neg c]
    simp only [Option.bind_some]
    by_cases d : H = 0
    · rw [if_pos (by omega), if_neg (by simp; omega)]; exact ⟨_, rfl, rfl⟩
    · rw [if_neg (by omega), if_pos (by simp; omega)]; exact ⟨_, rfl, rfl⟩

theorem WideCmp_same (k : Nat) (hk : 1 ≤ k) (a b c d : Int) : ∃ r, num_WideCmp.f a b c d = some r ∧ colonnaderef01_WideCmp.f k a b c d = some r := by
  obtain ⟨k, rfl⟩ : ∃ j, k = j + 1 := ⟨k - 1, by omega⟩
  unfold num_WideCmp.f colonnaderef01_WideCmp.f
  simp only [colonnaderef01_WideCmp.j0, Bool.and_eq_true, beq_iff_eq, if_true]
  by_cases h1 : a < c
  · rw [if_neg (by omega), if_pos h1, if_pos h1]; exact ⟨_, rfl, rfl⟩
  · rw [if_neg h1]
    by_cases h2 : a = c
    · by_cases h3 : b < d
      · rw [if_neg (by omega), if_neg h1, if_pos h2, if_pos h3, if_pos h2, decide_eq_true h3, if_pos rfl]; exact ⟨_, rfl, rfl⟩
      · rw [if_pos (c := a = c) h2, if_neg (c := a < c) h1, if_neg (c := b < d) h3, if_pos (c := a = c) h2, decide_eq_false h3, if_neg (c := false = true) (by simp)]
        by_cases h4 : a = c ∧ b = d
        · rw [if_pos h4]; exact ⟨_, rfl, rfl⟩
        · rw [if_neg h4]; exact ⟨_, rfl, rfl⟩
    · rw [if_neg (c := a = c) h2, if_neg (c := a < c) h1, if_neg (c := a = c) h2, if_neg (c := false = true) (by simp)]
      by_cases h4 : a = c ∧ b = d
      · exact absurd h4.1 h2
      · rw [if_neg h4]; exact ⟨_, rfl, rfl⟩

theorem wide_loop (L : List S31) (hL : ∀ x ∈ L, Wf x) (hn : L.length ≤ 17592186043904) : ∀ (d k i : Nat), i + d = L.length → d + 2 < k → colonnadelaw01_NumWide.l0 k L (L.length : Int) (i : Int) = some true := by
  intro d
  induction d with
  | zero =>
    intro k i hi hk
    obtain ⟨k, rfl⟩ : ∃ j, k = j + 1 := ⟨k - 1, by omega⟩
    simp only [colonnadelaw01_NumWide.l0]
    rw [if_neg (by omega)]
  | succ d ih =>
    intro k i hi hk
    obtain ⟨k, rfl⟩ : ∃ j, k = j + 1 := ⟨k - 1, by omega⟩
    have hlt : i < L.length := by omega
    have p0 : (0 : Int) < (L.length : Int) := by omega
    have p1 : (i : Int) < (L.length : Int) := Int.ofNat_lt.2 hlt
    have p2 : (0 : Int) ≤ (i : Int) := Int.natCast_nonneg i
    obtain ⟨r, n1, n2⟩ := Narrow_same L[i] (hL _ (List.getElem_mem hlt))
    have q := WideCmp_same k (by omega) (rd_T31 L 0).f0 (rd_T31 L 0).f1 (L[i]).f0 (L[i]).f1
    obtain ⟨s, c1, c2⟩ := q
    simp only [colonnadelaw01_NumWide.l0]
    rw [if_pos p1, if_pos p2, if_pos p1, rdw L i hlt, n1, n2]
    simp only [Option.bind_some, if_true]
    rw [if_pos p0, c1, c2]
    simp only [Option.bind_some, if_true]
    rw [idx_next i L.length hlt hn]
    exact ih k (i + 1) (by omega) (by omega)

theorem NumWide (a b : Int) (L : List S31) (wa : (Lit.int .i64 a).wf = true) (wb : (Lit.int .i64 b).wf = true) (hG : L.length * 16 ≤ 140737488351232 ∧ ∀ x ∈ L, (Lit.int .i64 x.f0).wf = true ∧ (Lit.int .u64 x.f1).wf = true) : ∃ k, colonnadelaw01_NumWide.f k a b L = some true := by
  have ha : In64 a := bounds_i64 wa
  have hb : In64 b := bounds_i64 wb
  obtain ⟨h2, h3⟩ := hG
  have hL : ∀ x ∈ L, Wf x := fun x hx => ⟨bounds_i64 (h3 x hx).1, by
    have := (h3 x hx).2
    simp [Lit.wf, IntKind.min, IntKind.max, IntKind.signed, IntKind.bits] at this
    exact ⟨by omega, by omega⟩⟩
  refine ⟨L.length + 100 + 1, ?_⟩
  obtain ⟨r, x1, x2⟩ := WideOf_same ha
  obtain ⟨s, y1, y2⟩ := WideMul_same ha hb
  obtain ⟨t, z1, z2⟩ := WideAdd_same L hL (by omega) (L.length + 100 + 1) (by omega)
  unfold colonnadelaw01_NumWide.f
  rw [begun01 _ (by omega)]
  simp only [Option.bind_some, if_true]
  rw [x1, x2]
  simp only [Option.bind_some]
  rw [if_neg (by simp), y1, y2]
  simp only [Option.bind_some]
  rw [if_neg (by simp), z1, z2]
  simp only [Option.bind_some, colonnadelaw01_NumWide.j0]
  rw [if_neg (by simp)]
  exact wide_loop L hL (by omega) L.length (L.length + 100) 0 (by omega) (by omega)
end Go.Proofs.YtmjpdhledcfjaaaDoor.Pure
