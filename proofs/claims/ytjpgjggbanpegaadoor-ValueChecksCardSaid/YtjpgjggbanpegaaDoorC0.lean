/- PRINTED BY A PROGRAM OF THIS SESSION (px.py, over the kit's print): Lean functions with the answers of Go functions of the given program, and proofs that the Go code comes to these answers; each under the conditions that its theorem states. -/
import Derived.Test.YtjpgjggbanpegaaDoorProg
import Derived.Test.YtjpgjggbanpegaaDoorAux
import Derived.Below
import Derived.Deep.Draws
import Derived.Deep.AppendLies
import Derived.Maps.AppendAt
import Derived.OwnWalk
import Derived.Laws.BytesArg
import Derived.Laws.MakeOwn
import Derived.Laws.OwnMore
import Derived.Deep.OwnRows
import Derived.Tactics
import Derived.Lib.ConvBytes
import Derived.Laws.Slices
import Derived.WalkKit
import Derived.KernelRfl
import Derived.RowKit3
import Derived.Deep.LoopGhost
import Derived.Deep.QuietTactic
import Derived.BigQuiet
import Derived.WideLaws
import Derived.Deep.DeepCutAuto
import Derived.Deep.CutBlock
import Derived.Deep.RegionHeld3
import Derived.Laws.Rows
import Derived.Lib.AppendStr
import Derived.ArgAppend
import Derived.Laws.IdiomCopy
import Derived.OrdersHeld
import Derived.Laws.BitsLemmas
import Derived.RowKit
import Derived.Lib.AppendIntMem
import Derived.Test.YtjpgjggbanpegaaDoorGl
import Derived.Test.YtjpgjggbanpegaaDoorShelf
import Derived.Test.YtjpgjggbanpegaaDoorWWords
import Derived.Test.YtjpgjggbanpegaaDoorWLast
import Derived.Test.YtjpgjggbanpegaaDoorWTab
import Derived.Test.YtjpgjggbanpegaaDoorWFour
import Derived.Test.YtjpgjggbanpegaaDoorWQPut
import Derived.Test.YtjpgjggbanpegaaDoorWApart
import Derived.Test.YtjpgjggbanpegaaDoorWArr
import Derived.Test.YtjpgjggbanpegaaDoorWZeros
import Derived.Test.YtjpgjggbanpegaaDoorWFoot
import Derived.Test.YtjpgjggbanpegaaDoorWKept
import Derived.Test.YtjpgjggbanpegaaDoorWShare
import Derived.Test.YtjpgjggbanpegaaDoorWN
import Derived.Test.YtjpgjggbanpegaaDoorWFootNe
import Derived.Test.YtjpgjggbanpegaaDoorWAt
import Derived.Test.YtjpgjggbanpegaaDoorWEqStruct
import Derived.Test.YtjpgjggbanpegaaDoorWRepsOne
import Derived.Test.YtjpgjggbanpegaaDoorWInv
import Derived.Test.YtjpgjggbanpegaaDoorWInvWords
import Derived.Test.YtjpgjggbanpegaaDoorWGuard
import Derived.Test.YtjpgjggbanpegaaDoorWNEv
import Derived.Test.YtjpgjggbanpegaaDoorWMore
namespace Go.Proofs.YtjpgjggbanpegaaDoor.C
open Go.RowKit Go.Proofs.YtjpgjggbanpegaaDoorW.PrintWords Go.Proofs.YtjpgjggbanpegaaDoorW.PrintLast Go.Proofs.YtjpgjggbanpegaaDoorW.PrintMore
attribute [local go_sem] max2_int min2_int max_two min_two max_three min_three max_four min_four   -- for this text's walks alone
set_option linter.unusedVariables false
set_option linter.unusedSimpArgs false



def errW : Option Int → Value
  | none => .nilIface
  | some c => .iface 0 (.int .i64 c)
theorem errW_none : errW none = .nilIface := rfl
theorem errW_some (c : Int) : errW (some c) = .iface 0 (.int .i64 c) := rfl

-- the values' own types

end Go.Proofs.YtjpgjggbanpegaaDoor.C
