/- Small facts for walks: a store over a store; a literal string's size. No conditions. -/
import Derived.Sort.Row
import Derived.WalkKit
namespace Go.Proofs.Ytmpamcfeijnafaa
open Go.RowKit Go.Sort
theorem setCell_twice (W : World) (b o : Nat) (u v : Value) : (W.setCell ⟨b, o, none⟩ u).setCell ⟨b, o, none⟩ v = W.setCell ⟨b, o, none⟩ v := by
  rw [setCell_eq, setCell_eq, mapBlock_mapBlock, setCell_eq]
  congr 1
  funext c
  simp

theorem size_lit (l : List UInt8) : (ByteArray.mk l.toArray).size = l.length := by simp [ByteArray.size]
end Go.Proofs.Ytmpamcfeijnafaa
