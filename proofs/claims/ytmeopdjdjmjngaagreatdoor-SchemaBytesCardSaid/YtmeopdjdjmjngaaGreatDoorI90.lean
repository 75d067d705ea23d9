/- PRINTED BY A PROGRAM OF THIS SESSION (px.py, over the kit's print): Lean functions with the answers of Go functions of the given program, and proofs that the Go code comes to these answers; each under the conditions that its theorem states. -/
import Derived.Test.YtmeopdjdjmjngaaGreatDoorProg
import Derived.Test.YtmeopdjdjmjngaaGreatDoorAux
import Derived.Below
import Derived.Deep.Draws
import Derived.Deep.AppendLies
import Derived.Maps.AppendAt
import Derived.OwnWalk
import Derived.Laws.BytesArg
import Derived.Laws.MakeOwn
import Derived.Laws.OwnMore
import Derived.Deep.OwnRows
import Derived.Tactics
import Derived.Lib.ConvBytes
import Derived.Laws.Slices
import Derived.WalkKit
import Derived.KernelRfl
import Derived.RowKit3
import Derived.Deep.LoopGhost
import Derived.Deep.QuietTactic
import Derived.BigQuiet
import Derived.WideLaws
import Derived.Deep.DeepCutAuto
import Derived.Deep.CutBlock
import Derived.Deep.RegionHeld3
import Derived.Laws.Rows
import Derived.Lib.AppendStr
import Derived.ArgAppend
import Derived.Laws.IdiomCopy
import Derived.OrdersHeld
import Derived.Laws.BitsLemmas
import Derived.RowKit
import Derived.BigQuiet
import Derived.Deep.QuietTactic
import Derived.Deep.RegionHeld3
import Derived.Laws.IdiomStrings
import Derived.Lib.AppendIntMem
import Derived.Lib.SmallJoins
import Derived.Maps.Own
import Derived.Maps.OwnOps
import Derived.Maps.OwnSet
import Derived.Maps.Views
import Derived.Shelf.SlicesQ.IndexFunc
import Derived.StillTailTactics
import Derived.StringKeys
import Derived.Test.YtmeopdjdjmjngaaGreatDoorGl
import Derived.Test.YtmeopdjdjmjngaaGreatDoorShelf
import Derived.Test.YtmeopdjdjmjngaaGreatDoorStrB
import Derived.WideMake
import Derived.Test.YtmeopdjdjmjngaaGreatDoorVI
import Derived.Test.YtmeopdjdjmjngaaGreatDoorI0
namespace Go.Proofs.YtmeopdjdjmjngaaGreatDoor.I
open Go.RowKit Go.Proofs.YtmeopdjdjmjngaaGreatDoorW.PrintWords Go.Proofs.YtmeopdjdjmjngaaGreatDoorW.PrintLast Go.Proofs.YtmeopdjdjmjngaaGreatDoorW.PrintMore
attribute [local go_sem] max2_int min2_int max_two min_two max_three min_three max_four min_four   -- for this text's walks alone
set_option linter.unusedVariables false
set_option linter.unusedSimpArgs false



structure S24 where
  f0 : ByteArray
  f1 : List (S36)
def z24 : S24 := ⟨(⟨#[]⟩ : ByteArray), []⟩
def k24 : Kd S24 := Kd.iso (Kd.pair Kd.string (Kd.slice 36 k36)) (fun x : S24 => (x.f0, x.f1))
end Go.Proofs.YtmeopdjdjmjngaaGreatDoor.I
