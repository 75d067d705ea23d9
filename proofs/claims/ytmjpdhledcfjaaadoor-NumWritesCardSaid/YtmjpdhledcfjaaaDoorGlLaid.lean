/- Out of what a row lists of the package-level variables: what the contracts ask of them. No conditions beyond the row's own list. -/
import Derived.Test.YtmjpdhledcfjaaaDoorRows
import Derived.Test.YtmjpdhledcfjaaaDoorGl
import Derived.LaidMore
import Derived.MakeChecks
import Derived.LaidLaws
import Derived.Stop.LaidErr
import Derived.Lib.LaidTab
namespace Go.Proofs.YtmjpdhledcfjaaaDoor
theorem Gl.of_laid {W : World} (h : laidMetH Tryd.prog [("math/bits.deBruijn32tab", Rows.laid_math_bits_deBruijn32tab), ("math/bits.deBruijn64tab", Rows.laid_math_bits_deBruijn64tab), ("internal/strconv.uint64pow10", Rows.laid_internal_strconv_uint64pow10)] W) : Gl W := by
  rw [MakeChecks.laidMetH_plain _ _ _ (by kernel_rfl)] at h
  exact ⟨Lib.tabIs_of_head (g := 0) (by kernel_rfl) (by kernel_rfl) (t := 118) (e := 29) (n := 20) (by kernel_rfl) (by kernel_rfl) (by kernel_rfl) (by kernel_rfl) h.tail.tail⟩
end Go.Proofs.YtmjpdhledcfjaaaDoor
