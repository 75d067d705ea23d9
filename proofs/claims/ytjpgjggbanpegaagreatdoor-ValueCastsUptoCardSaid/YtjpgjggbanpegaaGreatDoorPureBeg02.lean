/- Values: the beginning holds. -/
import Derived.Test.YtjpgjggbanpegaaGreatDoorE12
namespace Go.Proofs.YtjpgjggbanpegaaGreatDoor.Pure
open Go.RowKit Go.Proofs.YtjpgjggbanpegaaGreatDoor.E Go.Proofs.YtjpgjggbanpegaaGreatDoorW.PrintWords Go.Proofs.YtjpgjggbanpegaaGreatDoorW.PrintLast
theorem begun_50 : colonnadelaw02_begun.f 50 = some true := by kernel_rfl
theorem begun02 (k : Nat) (hk : 50 ≤ k) : colonnadelaw02_begun.f k = some true := at_rounds colonnadelaw02_begun.mono hk begun_50
end Go.Proofs.YtjpgjggbanpegaaGreatDoor.Pure
