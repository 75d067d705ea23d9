/- SchemaShows: what the printed law computes is true, for all definitions that are not too great. -/
import Derived.Test.YtmeopdjdjmjngaaGreatDoorPureShow11
import Derived.Test.YtmeopdjdjmjngaaGreatDoorPureBeg11
import Derived.Test.YtmeopdjdjmjngaaGreatDoorA90
import Derived.Test.YtmeopdjdjmjngaaGreatDoorA6
namespace Go.Proofs.YtmeopdjdjmjngaaGreatDoor.Pure
open Go.RowKit Go.Proofs.YtmeopdjdjmjngaaGreatDoor.A Go.Proofs.YtmeopdjdjmjngaaGreatDoorW.PrintWords Go.Proofs.YtmeopdjdjmjngaaGreatDoorW.PrintLast Go.Proofs.YtmeopdjdjmjngaaGreatDoor.Str
theorem shows_loop (l : List Col) (hw : ∀ c ∈ l, colOk c) (hl : l.length ≤ 1677721) (nm : ByteArray) (hn : nm.size ≤ 67108864) : ∀ (d k i : Nat), i + d = l.length → d + 2000000 < k →
    colonnadelaw11_SchemaShows.l0 k l (l.length : Int) (i : Int) nm l = some true := by
  intro d
  induction d with
  | zero =>
    intro k i hi hk
    obtain ⟨k, rfl⟩ : ∃ m, k = m + 1 := ⟨k - 1, by omega⟩
    rw [colonnadelaw11_SchemaShows.l0, if_neg (by omega), begun11 k (by omega), Option.bind_some, if_pos rfl, Show11_is l hw hl nm hn k (by omega), refShow11_is l hw hl nm hn k (by omega), Option.bind_some, Option.bind_some]
    simp
  | succ d ih =>
    intro k i hi hk
    obtain ⟨k, rfl⟩ : ∃ m, k = m + 1 := ⟨k - 1, by omega⟩
    have hlt : i < l.length := by omega
    have hc := hw l[i] (List.getElem_mem hlt)
    rw [colonnadelaw11_SchemaShows.l0, if_pos (by omega), if_pos (by omega), if_pos (by omega), rd_at l i hlt, TypeName_is _ _ hc.2.1, refTypeName_is k (by omega) _ _ hc.2.1, Option.bind_some, Option.bind_some, if_pos rfl, w64n i (by omega)]
    exact ih k (i + 1) (by omega) (by omega)
theorem SchemaShows (s : S24) (w0 : s.f0.size ≤ 67108864 ∧ s.f1.length * 40 ≤ 67108864 ∧ ∀ x ∈ s.f1, x.f0.size ≤ 67108864 ∧ ((Lit.int .i64 x.f1.f0).wf = true ∧ (Lit.int .i64 x.f1.f1).wf = true) ∧ True) : ∃ k, colonnadelaw11_SchemaShows.f k s.f0 s.f1 = some true := by
  obtain ⟨h1, h2, h3⟩ := w0
  refine ⟨4000000, ?_⟩
  unfold colonnadelaw11_SchemaShows.f
  exact shows_loop s.f1 (fun c hc => ⟨bounds_i64 (h3 c hc).2.1.1, bounds_i64 (h3 c hc).2.1.2, (h3 c hc).1⟩) (by omega) s.f0 h1 s.f1.length 4000000 0 (by omega) (by omega)
end Go.Proofs.YtmeopdjdjmjngaaGreatDoor.Pure
