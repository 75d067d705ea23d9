/- What the law's package asks at its beginning is so; no conditions. -/
import Derived.Test.YtmjpdhledcfjaaaDoorQ2
namespace Go.Proofs.YtmjpdhledcfjaaaDoor.Pure
open Go.RowKit Go.Proofs.YtmjpdhledcfjaaaDoor.Q Go.Proofs.YtmjpdhledcfjaaaDoorW.PrintWords Go.Proofs.YtmjpdhledcfjaaaDoorW.PrintLast
theorem begun01 : colonnadelaw01_begun.f 10 = some true := by kernel_rfl
end Go.Proofs.YtmjpdhledcfjaaaDoor.Pure
