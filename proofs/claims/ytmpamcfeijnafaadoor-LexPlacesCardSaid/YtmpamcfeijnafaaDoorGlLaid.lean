/- Out of what a row lists of the package-level variables, and out of the world's shape: what the contracts ask of them. No conditions beyond the row's own list. -/
import Derived.Test.YtmpamcfeijnafaaDoorRows
import Derived.Test.YtmpamcfeijnafaaDoorGl
import Derived.LaidMore
import Derived.MakeChecks
import Derived.LaidLaws
import Derived.Stop.LaidErr
import Derived.Lib.LaidTab
import Derived.Shelf.Vars
namespace Go.Proofs.YtmpamcfeijnafaaDoor
theorem Gl.of_laid {W : World} (h : laidMetH Tryd.prog [("unicode/utf8.acceptRanges", Rows.laid_unicode_utf8_acceptRanges), ("unicode/utf8.first", Rows.laid_unicode_utf8_first)] W) (hS : W.ShapedOpen Tryd.prog) : Gl W := by
  exact ⟨
    cell_of_shapedOpen_int (zero := #[.int .i64 0]) (t := 3) hS (of_decide_eq_true (by kernel_rfl)) (by kernel_rfl) rfl (by kernel_rfl) (by kernel_rfl) Tryd.underlying3⟩
end Go.Proofs.YtmpamcfeijnafaaDoor
