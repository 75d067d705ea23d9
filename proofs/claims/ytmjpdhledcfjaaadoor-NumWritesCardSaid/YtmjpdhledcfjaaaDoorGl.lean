/- What the package-level variables of Go's library that the program reads hold; and that it stays so while memory below the heap's end is kept. No conditions. -/
import Derived.Test.YtmjpdhledcfjaaaDoorProg
import Derived.Lib.SmallJoins
import Derived.Lib.LaidTab
import Derived.Lib.ItoaNum
import Derived.Below
import Derived.KernelRfl
namespace Go.Proofs.YtmjpdhledcfjaaaDoor
open Go.RowKit

structure Gl (w : World) : Prop where
  pow : Lib.TabIs Tryd.prog w "internal/strconv.uint64pow10" .u64 Lib.pow10Tab

theorem gPow : Tryd.prog.globalNamed "internal/strconv.uint64pow10" = some 0 := by kernel_rfl

theorem Gl.of {w w' : World} (h : Gl w) (hb : Below w.heap.size w w') : Gl w' :=
  ⟨Joins.tab_stays gPow h.pow hb (Nat.le_refl _)⟩

end Go.Proofs.YtmjpdhledcfjaaaDoor
