/- Values as texts, their keys and hashes: the printed functions and the reference say the same, for values that are not too great. -/
import Derived.Test.YtjpgjggbanpegaaDoorPureWrites
import Derived.Test.YtjpgjggbanpegaaDoorDbl
import Derived.Test.YtjpgjggbanpegaaDoorKey
import Derived.Lib.ItoaLen
import Derived.Test.YtjpgjggbanpegaaDoorV4
import Derived.Test.YtjpgjggbanpegaaDoorV5
namespace Go.Proofs.YtjpgjggbanpegaaDoor.Pure
open Go.RowKit Go.Proofs.YtjpgjggbanpegaaDoor.V Go.Proofs.YtjpgjggbanpegaaDoorW.PrintWords Go.Proofs.YtjpgjggbanpegaaDoorW.PrintLast Go.Proofs.YtjpgjggbanpegaaDoor.Str Go.Proofs.YtjpgjggbanpegaaDoor.Cal
abbrev Val := S25
theorem btB (l : List UInt8) (i : Nat) (h : i < l.length) : bt (B l) (i : Int) = ((l.getD i 0).toNat : Int) := by
  unfold bt
  rw [dif_pos (show ((i : Int)).toNat < (B l).size by rw [B_size]; exact h), List.getD_eq_getElem?_getD, List.getElem?_eq_getElem h]
  rfl
theorem u8c (c : UInt8) : UInt8.ofNat ((c.toNat : Int)).toNat = c := by rw [Int.toNat_natCast]; exact UInt8.ofNat_toNat
theorem w64s (a : Nat) (h : a ≤ 1000000000000000000) : wrap64 ((a : Int) + 1) = ((a + 1 : Nat) : Int) := by rw [wr (by omega) (by omega)]; omega
theorem u39 (c : UInt8) : ((c.toNat : Int) = 39) ↔ c = 39 := by
  constructor
  · intro h
    have h1 : c.toNat = (39 : UInt8).toNat := by
      have : (39 : UInt8).toNat = 39 := by decide
      omega
    exact UInt8.toNat_inj.1 h1
  · rintro rfl; decide
theorem sizeS (s : ByteArray) : s.data.toList.length = s.size := Array.length_toList
theorem getD_cons_drop {l : List UInt8} {i : Nat} (h : i < l.length) : l.drop i = l.getD i 0 :: l.drop (i + 1) := by
  rw [List.drop_eq_getElem_cons h, List.getD_eq_getElem?_getD, List.getElem?_eq_getElem h]; rfl
theorem replaceS (s : ByteArray) (h : s.size ≤ 67108864) : strings_ReplaceAll.f s (⟨#[39]⟩ : ByteArray) (⟨#[39, 39]⟩ : ByteArray) = some (B (dbl s.data.toList)) := by
  unfold strings_ReplaceAll.f
  have hc : Lib.countB s (⟨#[39]⟩ : ByteArray) ≤ s.size := by
    unfold Lib.countB
    show Lib.count s.data.toList [39] ≤ _
    rw [Lib.count_one]
    have := List.count_le_length (a := (39 : UInt8)) (l := s.data.toList)
    rw [sizeS] at this
    exact this
  have h2 : (⟨#[39, 39]⟩ : ByteArray).size = 2 := rfl
  have h1 : (⟨#[39]⟩ : ByteArray).size = 1 := rfl
  rw [h2, h1, if_pos ⟨by omega, by omega, by omega⟩]
  show some (B (Lib.replaceAll s.data.toList [39] [39, 39])) = _
  rw [replaceAll_dbl]
end Go.Proofs.YtjpgjggbanpegaaDoor.Pure
