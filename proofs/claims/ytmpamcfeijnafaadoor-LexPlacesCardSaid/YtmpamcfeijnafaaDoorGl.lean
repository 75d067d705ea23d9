/- What the package-level variables of Go's library that the program reads hold (a table; a length); and that it stays so while memory below the heap's end is kept. No conditions. -/
import Derived.Test.YtmpamcfeijnafaaDoorProg
import Derived.Lib.SmallJoins
import Derived.Lib.LaidTab
import Derived.Lib.ItoaNum
import Derived.Below
import Derived.KernelRfl
namespace Go.Proofs.YtmpamcfeijnafaaDoor
open Go.RowKit

structure Gl (w : World) : Prop where
  len : ∃ m, w.cell? ⟨0, 0, none⟩ = some (.int .i64 m)


theorem Gl.of {w w' : World} (h : Gl w) (hb : Below w.heap.size w w') : Gl w' :=
  ⟨by
    obtain ⟨m, hm⟩ := h.len
    refine ⟨m, (hb.cell (p := ⟨0, 0, none⟩) ?_).trans hm⟩
    unfold World.cell? at hm
    cases ho : w.heap[0]? with
    | none => simp [ho] at hm
    | some o => exact (Array.getElem?_eq_some_iff.1 ho).1⟩

end Go.Proofs.YtmpamcfeijnafaaDoor
