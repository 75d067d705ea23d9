/- What the law's package asks at its beginning is so; no conditions. -/
import Derived.Test.YtgkkbbpcdjogoaaDoorT5
namespace Go.Proofs.YtgkkbbpcdjogoaaDoor.Pure
open Go.RowKit Go.Proofs.YtgkkbbpcdjogoaaDoor.T Go.Proofs.YtgkkbbpcdjogoaaDoorW.PrintWords Go.Proofs.YtgkkbbpcdjogoaaDoorW.PrintLast
theorem begun10 : colonnadelaw01_begun.f 10 = some true := by kernel_rfl
theorem begun01 (k : Nat) (hk : 10 ≤ k) : colonnadelaw01_begun.f k = some true := at_rounds colonnadelaw01_begun.mono hk begun10
end Go.Proofs.YtgkkbbpcdjogoaaDoor.Pure
