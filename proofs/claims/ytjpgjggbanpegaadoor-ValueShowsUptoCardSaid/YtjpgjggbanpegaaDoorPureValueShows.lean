/- ValueShows: what the printed law computes is true, for values that are not too great. -/
import Derived.Test.YtjpgjggbanpegaaDoorPureKeyH
import Derived.Test.YtjpgjggbanpegaaDoorPureBeg02
import Derived.Test.YtjpgjggbanpegaaDoorK7
namespace Go.Proofs.YtjpgjggbanpegaaDoor.Pure
open Go.RowKit Go.Proofs.YtjpgjggbanpegaaDoor.K Go.Proofs.YtjpgjggbanpegaaDoorW.PrintWords Go.Proofs.YtjpgjggbanpegaaDoorW.PrintLast Go.Proofs.YtjpgjggbanpegaaDoor.Str
theorem shows_loop (z : Int) (l : List Val) (hb : bulk l) : ∀ (d k i : Nat), i + d = l.length → 110000000000001 + d ≤ k → colonnadelaw02_ValueShows.l0 k z l l (l.length : Int) (i : Int) = some true := by
  intro d
  have hl := hb.1
  induction d with
  | zero =>
    intro k i h hk
    obtain ⟨k, rfl⟩ : ∃ q, k = q + 1 := ⟨k - 1, by omega⟩
    obtain ⟨r, e1, e2⟩ := Hash_both k z l hb (by omega)
    rw [colonnadelaw02_ValueShows.l0, if_neg (by omega), begun02 k (by omega), Option.bind_some, if_pos rfl, Key_is l hb, refKey_is k l hb (by omega), Option.bind_some, Option.bind_some, if_pos rfl, e1, e2]
    simp
  | succ d ih =>
    intro k i h hk
    obtain ⟨k, rfl⟩ : ∃ q, k = q + 1 := ⟨k - 1, by omega⟩
    have hi : i < l.length := by omega
    obtain ⟨h1, h2, h3, h4⟩ := hb.2 l[i] (List.getElem_mem hi)
    obtain ⟨r, e1, e2⟩ := Show_same k (by omega) l[i].f0.f0 l[i].f0.f1 l[i].f2 l[i].f1 l[i].f3 h3 h4
    rw [colonnadelaw02_ValueShows.l0, if_pos (by omega), if_pos (by omega), if_pos (by omega), rdV l i hi, e1, e2, Option.bind_some, Option.bind_some, if_pos rfl, w64s i (by omega)]
    exact ih k (i + 1) (by omega) (by omega)
theorem ValueShows (z : Int) (l : List Val) (_wz : (Lit.int .u64 z).wf = true) (w : l.length * 48 ≤ 67108864 ∧ ∀ x ∈ l, ((((Lit.int .i64 x.f0.f0).wf = true ∧ (Lit.int .i64 x.f0.f1).wf = true)) ∧ True ∧ (Lit.int .i64 x.f2).wf = true ∧ x.f3.size ≤ 67108864)) : ∃ k, colonnadelaw02_ValueShows.f k z l = some true := by
  have hb := bulkK w
  have hl := hb.1
  refine ⟨120000000000000, ?_⟩
  unfold colonnadelaw02_ValueShows.f
  exact shows_loop z l hb l.length _ 0 (by omega) (by omega)
end Go.Proofs.YtjpgjggbanpegaaDoor.Pure
