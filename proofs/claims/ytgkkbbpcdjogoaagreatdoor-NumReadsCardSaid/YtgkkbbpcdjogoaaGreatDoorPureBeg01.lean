/- What the law's package asks at its beginning is so; no conditions. -/
import Derived.Test.YtgkkbbpcdjogoaaGreatDoorT15
namespace Go.Proofs.YtgkkbbpcdjogoaaGreatDoor.Pure
open Go.RowKit Go.Proofs.YtgkkbbpcdjogoaaGreatDoor.T Go.Proofs.YtgkkbbpcdjogoaaGreatDoorW.PrintWords Go.Proofs.YtgkkbbpcdjogoaaGreatDoorW.PrintLast
theorem begun10 : colonnadelaw01_begun.f 10 = some true := by kernel_rfl
theorem begun01 (k : Nat) (hk : 10 ≤ k) : colonnadelaw01_begun.f k = some true := at_rounds colonnadelaw01_begun.mono hk begun10
end Go.Proofs.YtgkkbbpcdjogoaaGreatDoor.Pure
