/- LexAll: what is wanted is what lex.All goes through, for any text. -/
import Derived.Test.YtmpamcfeijnafaaPureLexR
import Derived.Test.YtmpamcfeijnafaaLexAllLaw
namespace Go.Proofs.Ytmpamcfeijnafaa.Pure
open Go.RowKit Go.Proofs.Ytmpamcfeijnafaa.R Go.Proofs.Ytmpamcfeijnafaa.Iter Go.Proofs.YtmpamcfeijnafaaW.PrintWords Go.Proofs.YtmpamcfeijnafaaW.PrintLast Go.Proofs.Ytmpamcfeijnafaa.Str Go.Proofs.Ytmpamcfeijnafaa.Lex
theorem allOf_B (k : Nat) (hk : 400000 < k) (l : List UInt8) (h : l.length ≤ 65536) : allOf k (B l) = some (mkAll (known l).1) := by
  unfold allOf
  rw [if_neg (by rw [B_size]; omega), lexknown_B k l (by omega) (by omega)]
  rfl
theorem LexAll (a0 : ByteArray) (a1 : Int) (_w0 : a0.size ≤ 140737488351232) (_w1 : (Lit.int .i64 a1).wf = true) : ∃ k, allLaw.f k a0 = some true := by
  refine ⟨500000, ?_⟩
  unfold allLaw.f
  by_cases hz : a0.size ≤ 65536
  · rw [if_pos hz]
    have e := B_of a0
    have hl : a0.data.toList.length ≤ 65536 := by rw [Array.length_toList]; exact hz
    generalize a0.data.toList = l at e hl
    subst e
    rw [rKnown_B _ l (by omega) (by omega), Option.bind_some, if_pos ⟨allOf_B _ (by omega) l hl, begun16 _ (by omega)⟩]
  · rw [if_neg hz, if_pos (begun16 _ (by omega))]
end Go.Proofs.Ytmpamcfeijnafaa.Pure
