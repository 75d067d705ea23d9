/- Out of what a row lists of the package-level variables, and out of the world's shape: what the contracts ask of them. No conditions beyond the row's own list. -/
import Derived.Test.YtgkkbbpcdjogoaaGreatDoorRows
import Derived.Test.YtgkkbbpcdjogoaaGreatDoorGl
import Derived.LaidMore
import Derived.MakeChecks
import Derived.LaidLaws
import Derived.Stop.LaidErr
import Derived.Lib.LaidTab
import Derived.Shelf.Vars
namespace Go.Proofs.YtgkkbbpcdjogoaaGreatDoor
theorem star : "*" ++ "errors.errorString" = "*errors.errorString" := by decide
theorem rowErr (u : TypeId) (h : Tryz.prog.typeName? 3 u = some "*errors.errorString") : u = 96 :=
  typeName_ptr_named (nm := "errors.errorString") (by rw [star]; kernel_rfl) (by kernel_rfl) (by decide) u (by rw [star]; exact h)
theorem Gl.of_laid {W : World} (h : laidMetH Tryz.prog [("math/bits.deBruijn32tab", Rows.laid_math_bits_deBruijn32tab), ("math/bits.deBruijn64tab", Rows.laid_math_bits_deBruijn64tab), ("internal/strconv.uint64pow10", Rows.laid_internal_strconv_uint64pow10), ("unicode/utf8.acceptRanges", Rows.laid_unicode_utf8_acceptRanges), ("strconv.ErrRange", Rows.laid_strconv_ErrRange), ("strconv.ErrSyntax", Rows.laid_strconv_ErrSyntax), ("unicode/utf8.first", Rows.laid_unicode_utf8_first)] W) (hS : W.ShapedOpen Tryz.prog) : Gl W := by
  rw [MakeChecks.laidMetH_plain _ _ _ (by kernel_rfl)] at h
  have hR := h.tail.tail.tail.tail
  obtain ⟨a0, _, v0, _⟩ := laid_sentinel hR gRan (by kernel_rfl) Tryz.underlying31 rowErr Tryz.underlying96 Tryz.underlying98 rfl rfl Tryz.underlying9 (by kernel_rfl) (by kernel_rfl)
  obtain ⟨a1, _, v1, _⟩ := laid_sentinel hR.tail gSyn (by kernel_rfl) Tryz.underlying31 rowErr Tryz.underlying96 Tryz.underlying98 rfl rfl Tryz.underlying9 (by kernel_rfl) (by kernel_rfl)
  exact ⟨Lib.tabIs_of_head (g := 5) (by kernel_rfl) (by kernel_rfl) (t := 116) (e := 34) (n := 20) (by kernel_rfl) (by kernel_rfl) (by kernel_rfl) (by kernel_rfl) h.tail.tail,
    cell_of_shapedOpen_int (zero := #[.int .i64 0]) (t := 3) hS (of_decide_eq_true (by kernel_rfl)) (by kernel_rfl) rfl (by kernel_rfl) (by kernel_rfl) Tryz.underlying3,
    ⟨_, _, v1⟩, ⟨_, _, v0⟩⟩
end Go.Proofs.YtgkkbbpcdjogoaaGreatDoor
