/- NumBack: what the printed law computes is true, for all whole numbers of 64 bits. -/
import Derived.Test.YtgkkbbpcdjogoaaDoorPureParse
import Derived.Test.YtgkkbbpcdjogoaaDoorPureBeg01
import Derived.Test.YtgkkbbpcdjogoaaDoorT11
namespace Go.Proofs.YtgkkbbpcdjogoaaDoor.Pure
open Go.RowKit Go.Proofs.YtgkkbbpcdjogoaaDoor.T Go.Proofs.YtgkkbbpcdjogoaaDoorW.PrintWords Go.Proofs.YtgkkbbpcdjogoaaDoorW.PrintLast Go.Proofs.YtgkkbbpcdjogoaaDoor.Str Go.Proofs.YtgkkbbpcdjogoaaDoor.Cal
theorem nb_j2 (k : Nat) (hk : 60000 ≤ k) (n : Int) : colonnadelaw01_NumBack.j2 (k + 1) n = some true := by
  rw [colonnadelaw01_NumBack.j2]
  by_cases h : n < -719162 ∨ n > 2932896
  · rw [(FormatDay_no k (by omega) n h).1, Option.bind_some, if_neg (by decide), if_pos (by rw [show (⟨#[]⟩ : ByteArray) = B [] from rfl]; exact B_toList [])]
    by_cases c : n < -719162
    · rw [if_pos c]
    · rw [if_neg c, decide_eq_true (by omega)]
  · obtain ⟨y, m, d, hv, he⟩ := day_of n (by omega) (by omega)
    have hv' := hv
    obtain ⟨a1, _, a3, _, a5, _⟩ := hv'
    obtain ⟨y, rfl⟩ := Int.eq_ofNat_of_zero_le (show 0 ≤ y by omega)
    obtain ⟨m, rfl⟩ := Int.eq_ofNat_of_zero_le (show 0 ≤ m by omega)
    obtain ⟨d, rfl⟩ := Int.eq_ofNat_of_zero_le (show 0 ≤ d by omega)
    obtain ⟨p1, p2⟩ := ParseDay_is k (by omega) y m d hv
    rw [(FormatDay_is k hk y m d n hv he).1, Option.bind_some, if_pos rfl, p1, Option.bind_some, if_pos he, if_pos rfl, p2]
    rfl
theorem nb_j1 (k : Nat) (hk : 60000 ≤ k) (n s : Int) (t : ByteArray) (b : Bool) (h : b = true → num_ParseDec.f t = some (n, s, 0)) : colonnadelaw01_NumBack.j1 (k + 2) n s t b = some true := by
  rw [colonnadelaw01_NumBack.j1]
  cases b with
  | true => rw [if_pos rfl, h rfl, Option.bind_some, if_pos rfl, if_pos rfl, if_pos rfl, nb_j2 k hk n]
  | false => rw [if_neg (by simp), nb_j2 k hk n]
theorem nb_j0 (k : Nat) (hk : 60000 ≤ k) (n s : Int) (hn : In64 n) : colonnadelaw01_NumBack.j0 (k + 3) n s false = some true := by
  rw [colonnadelaw01_NumBack.j0, if_neg (by simp)]
  by_cases h : 0 ≤ s ∧ s ≤ 18
  · obtain ⟨q, rfl⟩ := Int.eq_ofNat_of_zero_le h.1
    rw [FormatDec_num n hn q (by omega), Option.bind_some, if_pos rfl]
    unfold num_Fits.f
    by_cases c : -999999999999999999 ≤ n
    · rw [if_pos c, Option.bind_some]
      refine nb_j1 k hk n q _ _ fun hb => ParseDec_is n ⟨c, of_decide_eq_true hb⟩ q (by omega)
    · rw [if_neg c, Option.bind_some]
      exact nb_j1 k hk n q _ _ fun hb => by cases hb
  · rw [(FormatDec_no 0 n s h).1, Option.bind_some, if_neg (by decide)]
    exact nb_j1 k hk n s _ _ fun hb => by cases hb
theorem NumBack (n s : Int) (wn : (Lit.int .i64 n).wf = true) (_ws : (Lit.int .i64 s).wf = true) : ∃ k, colonnadelaw01_NumBack.f k n s = some true := by
  have hn : In64 n := bounds_i64 wn
  refine ⟨60003, ?_⟩
  unfold colonnadelaw01_NumBack.f
  rw [begun01 60003 (by omega), Option.bind_some, if_pos rfl, FormatInt_is n hn, Option.bind_some, ParseInt_itoa n hn, Option.bind_some, if_pos rfl]
  exact nb_j0 60000 (by omega) n s hn
end Go.Proofs.YtgkkbbpcdjogoaaDoor.Pure
