/- Schema: the beginning holds. -/
import Derived.Test.YtmeopdjdjmjngaaGreatDoorI5
namespace Go.Proofs.YtmeopdjdjmjngaaGreatDoor.Pure
open Go.RowKit Go.Proofs.YtmeopdjdjmjngaaGreatDoor.I Go.Proofs.YtmeopdjdjmjngaaGreatDoorW.PrintWords Go.Proofs.YtmeopdjdjmjngaaGreatDoorW.PrintLast
theorem begun11_60 : colonnadelaw11_begun.f 60 = some true := by kernel_rfl
theorem begun11 (k : Nat) (hk : 60 ≤ k) : colonnadelaw11_begun.f k = some true := at_rounds colonnadelaw11_begun.mono hk begun11_60
end Go.Proofs.YtmeopdjdjmjngaaGreatDoor.Pure
