/- What the printed functions of products compute, for whole numbers of 64 bits. -/
import Derived.Test.YtjpgjggbanpegaaDoorWide
import Derived.Test.YtjpgjggbanpegaaDoorV3
import Derived.OpenShut
namespace Go.Proofs.YtjpgjggbanpegaaDoor.Pure
open Go.RowKit Go.Proofs.YtjpgjggbanpegaaDoor.V Go.Proofs.YtjpgjggbanpegaaDoorW.PrintWords Go.Proofs.YtjpgjggbanpegaaDoorW.PrintLast Go.Proofs.YtjpgjggbanpegaaDoor.Wide

def In64 (a : Int) : Prop := -9223372036854775808 ≤ a ∧ a ≤ 9223372036854775807
def InU (a : Int) : Prop := 0 ≤ a ∧ a < 18446744073709551616
theorem InU_U (x : Int) : InU (U x) := by unfold InU; rw [U_mod]; omega
theorem w64_mod (x : Int) : wrap64 x = (x + 9223372036854775808) % 18446744073709551616 - 9223372036854775808 := by unfold wrap64; rfl

end Go.Proofs.YtjpgjggbanpegaaDoor.Pure
