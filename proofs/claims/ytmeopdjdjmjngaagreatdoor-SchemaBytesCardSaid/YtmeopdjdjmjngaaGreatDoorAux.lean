/- Small facts for walks: a store over a store; a literal string's size. No conditions. -/
import Derived.Sort.Row
import Derived.WalkKit
namespace Go.Proofs.YtmeopdjdjmjngaaGreatDoor
open Go.RowKit Go.Sort
theorem setCell_twice (W : World) (b o : Nat) (u v : Value) : (W.setCell ⟨b, o, none⟩ u).setCell ⟨b, o, none⟩ v = W.setCell ⟨b, o, none⟩ v := by
  rw [setCell_eq, setCell_eq, mapBlock_mapBlock, setCell_eq]
  congr 1
  funext c
  simp

theorem size_lit (l : List UInt8) : (ByteArray.mk l.toArray).size = l.length := by simp [ByteArray.size]
theorem bytesLess_turn : ∀ x y : List UInt8, (!(Go.Op.bytesLess x y || x == y)) = Go.Op.bytesLess y x
  | [], [] => by simp [Go.Op.bytesLess]
  | [], _ :: _ => by simp [Go.Op.bytesLess]
  | _ :: _, [] => by simp [Go.Op.bytesLess]
  | a :: x, b :: y => by
    have ih := bytesLess_turn x y
    simp only [Go.Op.bytesLess, List.cons_beq_cons]
    rw [← ih]
    rcases Nat.lt_trichotomy a.toNat b.toNat with h | h | h
    · have h1 : a < b := h
      have h2 : ¬ b < a := fun g => absurd (show b.toNat < a.toNat from g) (by omega)
      have h3 : ¬ a = b := fun g => by subst g; omega
      have h4 : ¬ b = a := fun g => h3 g.symm
      simp [h1, h2, h4]
    · have h3 : a = b := UInt8.toNat_inj.mp h
      subst h3
      have h2 : ¬ a < a := fun g => absurd (show a.toNat < a.toNat from g) (by omega)
      simp [h2]
    · have h1 : b < a := h
      have h2 : ¬ a < b := fun g => absurd (show a.toNat < b.toNat from g) (by omega)
      have h3 : ¬ a = b := fun g => by subst g; omega
      simp [h1, h2, h3]
theorem run_gtr_string {P : Program} (t : TypeId) (a b : ByteArray) (w : World) : (Go.binOp BinOp.gtr t (.string a) (.string b)).run P w = .ok (.bool (Op.bytesLess b.toList a.toList)) w := by
  rw [← bytesLess_turn]; rfl
end Go.Proofs.YtmeopdjdjmjngaaGreatDoor
