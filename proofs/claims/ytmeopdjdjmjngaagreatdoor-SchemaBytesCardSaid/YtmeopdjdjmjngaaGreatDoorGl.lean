/- What the package-level variables of Go's library that the program reads hold; and that it stays so while memory below the heap's end is kept. No conditions. -/
import Derived.Test.YtmeopdjdjmjngaaGreatDoorProg
import Derived.Lib.SmallJoins
import Derived.Lib.LaidTab
import Derived.Lib.ItoaNum
import Derived.Below
import Derived.Shelf.Unicode.DecodeSlow
import Derived.KernelRfl
namespace Go.Proofs.YtmeopdjdjmjngaaGreatDoor
open Go.RowKit

structure Gl (w : World) : Prop where
  pow : Lib.TabIs Tryz.prog w "internal/strconv.uint64pow10" .u64 Lib.pow10Tab
  len : ∃ m, w.cell? ⟨1, 0, none⟩ = some (.int .i64 m)
  u8 : Lib.Utf8Tabs 2 3 w
  ran : ∃ tp p, w.var? Tryz.prog "strconv.ErrRange" = some #[.iface tp p]

theorem gPow : Tryz.prog.globalNamed "internal/strconv.uint64pow10" = some 0 := by kernel_rfl
theorem gRan : Tryz.prog.globalNamed "strconv.ErrRange" = some 5 := by kernel_rfl

theorem Gl.of {w w' : World} (h : Gl w) (hb : Below w.heap.size w w') : Gl w' :=
  ⟨Joins.tab_stays gPow h.pow hb (Nat.le_refl _), by
    obtain ⟨m, hm⟩ := h.len
    refine ⟨m, (hb.cell (p := ⟨1, 0, none⟩) ?_).trans hm⟩
    unfold World.cell? at hm
    cases ho : w.heap[1]? with
    | none => simp [ho] at hm
    | some o => exact (Array.getElem?_eq_some_iff.1 ho).1,
   Utf8Tabs_below h.u8 hb,
   by obtain ⟨tp, p, e⟩ := h.ran; exact ⟨tp, p, Joins.var_stays gRan e hb (Nat.le_refl _)⟩⟩

end Go.Proofs.YtmeopdjdjmjngaaGreatDoor
