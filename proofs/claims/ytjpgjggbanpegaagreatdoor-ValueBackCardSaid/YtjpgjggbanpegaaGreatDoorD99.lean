/- The Lean functions that stand for the reference's Go functions elsewhere: here as plain functions; nothing of this program is told of them. -/
import Derived.Test.YtjpgjggbanpegaaGreatDoorD0
namespace Go.Proofs.YtjpgjggbanpegaaGreatDoor.D
open Go.RowKit Go.Proofs.YtjpgjggbanpegaaGreatDoorW.PrintWords Go.Proofs.YtjpgjggbanpegaaGreatDoorW.PrintLast
def colonnaderef01_leap.f (a0 : Int) : Option (Bool) := if (Int.tmod a0 4) = 0 then (if (Int.tmod a0 100) = 0 then (some ((Int.tmod a0 400) == 0)) else (some true)) else (some false)
def colonnaderef01_length.j0 : Nat → Int → Int → Bool → Option (Int)
  | 0, _, _, _ => none
  | k + 1, x0, x5, x6 => if x6 = true then (some 30) else (if x5 = 2 then ((colonnaderef01_leap.f x0).bind fun t225 => (if t225 = true then (some 29) else (some 28))) else (some 31))
def colonnaderef01_length.f (k : Nat) (a0 : Int) (a1 : Int) : Option (Int) := if a1 = 4 then (colonnaderef01_length.j0 k a0 a1 (a1 == 4)) else (if a1 = 6 then (colonnaderef01_length.j0 k a0 a1 (a1 == 6)) else (if a1 = 9 then (colonnaderef01_length.j0 k a0 a1 (a1 == 9)) else (colonnaderef01_length.j0 k a0 a1 (a1 == 11))))
def colonnaderef01_before.f (a0 : Int) : Option (Int) := some (wrap64 ((wrap64 ((wrap64 ((wrap64 (365 * (wrap64 (a0 - 1)))) + (wrap64 (Int.tdiv (wrap64 (a0 - 1)) 4)))) - (wrap64 (Int.tdiv (wrap64 (a0 - 1)) 100)))) + (wrap64 (Int.tdiv (wrap64 (a0 - 1)) 400))))
mutual
def colonnaderef01_Day.j0 : Nat → Int → Int → Int → Bool → Option (Int × Int)
  | 0, _, _, _, _ => none
  | k + 1, x0, x1, x2, x34 => if x34 = true then (some (0, 13)) else ((colonnaderef01_before.f x0).bind fun t290 => (colonnaderef01_Day.l0 k x0 x1 (wrap64 ((wrap64 (t290 + (-719162))) + (wrap64 (x2 - 1)))) 1))
def colonnaderef01_Day.l0 : Nat → Int → Int → Int → Int → Option (Int × Int)
  | 0, _, _, _, _ => none
  | k + 1, x0, x1, x8, x9 => if x9 < x1 then ((colonnaderef01_length.f k x0 x9).bind fun t291 => (colonnaderef01_Day.l0 k x0 x1 (wrap64 (x8 + t291)) (wrap64 (x9 + 1)))) else (some (x8, 0))
end
def colonnaderef01_Day.f (k : Nat) (a0 : Int) (a1 : Int) (a2 : Int) : Option (Int × Int) := if a0 < 1 then (colonnaderef01_Day.j0 k a0 a1 a2 true) else (if a0 > 9999 then (colonnaderef01_Day.j0 k a0 a1 a2 true) else (if a1 < 1 then (colonnaderef01_Day.j0 k a0 a1 a2 true) else (if a1 > 12 then (colonnaderef01_Day.j0 k a0 a1 a2 true) else (if a2 < 1 then (colonnaderef01_Day.j0 k a0 a1 a2 true) else ((colonnaderef01_length.f k a0 a1).bind fun t289 => (colonnaderef01_Day.j0 k a0 a1 a2 (decide (a2 > t289))))))))
mutual
def colonnaderef01_Civil.j0 : Nat → Int → Bool → Option (Int × Int × Int × Int)
  | 0, _, _ => none
  | k + 1, x0, x14 => if x14 = true then (some (0, 0, 0, 13)) else (colonnaderef01_Civil.l0 k (wrap64 (x0 + 719162)) (wrap64 ((wrap64 (Int.tdiv (wrap64 (x0 + 719162)) 366)) + 1)))
def colonnaderef01_Civil.l0 : Nat → Int → Int → Option (Int × Int × Int × Int)
  | 0, _, _ => none
  | k + 1, x0, x6 => (colonnaderef01_before.f (wrap64 (x6 + 1))).bind fun t226 => (if t226 ≤ x0 then (colonnaderef01_Civil.l0 k x0 (wrap64 (x6 + 1))) else ((colonnaderef01_before.f x6).bind fun t227 => (colonnaderef01_Civil.l1 k x6 (wrap64 (x0 - t227)) 1)))
def colonnaderef01_Civil.l1 : Nat → Int → Int → Int → Option (Int × Int × Int × Int)
  | 0, _, _, _ => none
  | k + 1, x6, x7, x8 => (colonnaderef01_length.f k x6 x8).bind fun t228 => (if x7 ≥ t228 then ((colonnaderef01_length.f k x6 x8).bind fun t229 => (colonnaderef01_Civil.l1 k x6 (wrap64 (x7 - t229)) (wrap64 (x8 + 1)))) else (some (x6, x8, wrap64 (x7 + 1), 0)))
end
def colonnaderef01_Civil.f (k : Nat) (a0 : Int) : Option (Int × Int × Int × Int) := if a0 < (-719162) then (colonnaderef01_Civil.j0 k a0 true) else (colonnaderef01_Civil.j0 k a0 (decide (a0 > 2932896)))
def colonnaderef01_product.f (a0 : Int) (a1 : Int) : Option (Int × Int) := some (IntKind.u64.wrap ((IntKind.u64.wrap ((IntKind.u64.wrap ((a0 / 4294967296) * (a1 / 4294967296))) + ((IntKind.u64.wrap ((IntKind.u64.wrap ((a0 / 4294967296) * (Go.bits .and .u64 a1 4294967295))) + ((IntKind.u64.wrap ((Go.bits .and .u64 a0 4294967295) * (Go.bits .and .u64 a1 4294967295))) / 4294967296))) / 4294967296))) + ((IntKind.u64.wrap ((IntKind.u64.wrap ((Go.bits .and .u64 a0 4294967295) * (a1 / 4294967296))) + (Go.bits .and .u64 (IntKind.u64.wrap ((IntKind.u64.wrap ((a0 / 4294967296) * (Go.bits .and .u64 a1 4294967295))) + ((IntKind.u64.wrap ((Go.bits .and .u64 a0 4294967295) * (Go.bits .and .u64 a1 4294967295))) / 4294967296))) 4294967295))) / 4294967296)), Go.bits .or .u64 (IntKind.u64.wrap ((IntKind.u64.wrap ((IntKind.u64.wrap ((Go.bits .and .u64 a0 4294967295) * (a1 / 4294967296))) + (Go.bits .and .u64 (IntKind.u64.wrap ((IntKind.u64.wrap ((a0 / 4294967296) * (Go.bits .and .u64 a1 4294967295))) + ((IntKind.u64.wrap ((Go.bits .and .u64 a0 4294967295) * (Go.bits .and .u64 a1 4294967295))) / 4294967296))) 4294967295))) * 4294967296)) (Go.bits .and .u64 (IntKind.u64.wrap ((Go.bits .and .u64 a0 4294967295) * (Go.bits .and .u64 a1 4294967295))) 4294967295))
def colonnaderef01_amount.f (a0 : Int) : Option (Int) := if a0 < 0 then (some (IntKind.u64.wrap (-(IntKind.u64.wrap (a0))))) else (some (IntKind.u64.wrap (a0)))
def colonnaderef01_signed.j0 : Nat → Int → Bool → Option (Int × Int)
  | 0, _, _ => none
  | k + 1, x0, x10 => if x10 = true then (some (wrap64 (IntKind.u64.wrap (-x0)), 0)) else (if x0 > 9223372036854775807 then (some (0, 10)) else (some (wrap64 (x0), 0)))
def colonnaderef01_signed.f (k : Nat) (a0 : Int) (a1 : Bool) : Option (Int × Int) := if a1 = true then (colonnaderef01_signed.j0 k a0 (decide (a0 ≤ 9223372036854775808))) else (colonnaderef01_signed.j0 k a0 false)
def colonnaderef01_Mul.f (k : Nat) (a0 : Int) (a1 : Int) : Option (Int × Int) := (colonnaderef01_amount.f a0).bind fun t259 => ((colonnaderef01_amount.f a1).bind fun t260 => ((colonnaderef01_product.f t259 t260).bind fun bt261 => (if bt261.1 = 0 then ((colonnaderef01_signed.f k bt261.2 ((decide (a0 < 0)) != (decide (a1 < 0)))).bind fun bt263 => (some (bt263.1, bt263.2))) else (some (0, 10)))))
mutual
def colonnaderef01_Pow10.j0 : Nat → Int → Bool → Option (Int × Int)
  | 0, _, _ => none
  | k + 1, x0, x11 => if x11 = true then (some (0, 1)) else (colonnaderef01_Pow10.l0 k x0 1 0)
def colonnaderef01_Pow10.l0 : Nat → Int → Int → Int → Option (Int × Int)
  | 0, _, _, _ => none
  | k + 1, x0, x4, x5 => if x5 < x0 then (colonnaderef01_Pow10.l0 k x0 (wrap64 (x4 * 10)) (wrap64 (x5 + 1))) else (some (x4, 0))
end
def colonnaderef01_Pow10.f (k : Nat) (a0 : Int) : Option (Int × Int) := if a0 < 0 then (colonnaderef01_Pow10.j0 k a0 true) else (colonnaderef01_Pow10.j0 k a0 (decide (a0 > 18)))
def colonnaderef01_Fits.f (a0 : Int) : Option (Bool) := if a0 ≥ (-999999999999999999) then (some (decide (a0 ≤ 999999999999999999))) else (some false)
def colonnaderef01_Scale.j0 : Nat → Int → Int → Int → Bool → Option (Int × Int)
  | 0, _, _, _, _ => none
  | k + 1, x0, x1, x2, x29 => if x29 = true then (some (0, 1)) else ((colonnaderef01_Fits.f x0).bind fun t265 => (if t265 = true then (if x2 ≥ x1 then ((colonnaderef01_Pow10.f k (wrap64 (x2 - x1))).bind fun bt266 => ((colonnaderef01_Mul.f k x0 bt266.1).bind fun bt268 => (if bt268.2 = 0 then ((colonnaderef01_Fits.f bt268.1).bind fun t270 => (if t270 = true then (some (bt268.1, 0)) else (some (0, 10)))) else (some (0, 10))))) else ((colonnaderef01_Pow10.f k (wrap64 (x1 - x2))).bind fun bt271 => ((colonnaderef01_amount.f x0).bind fun t273 => (if (IntKind.u64.wrap (bt271.1)) = 0 then (none) else (if (IntKind.u64.wrap (2 * (Int.tmod t273 (IntKind.u64.wrap (bt271.1))))) ≥ (IntKind.u64.wrap (bt271.1)) then ((colonnaderef01_signed.f k (IntKind.u64.wrap ((IntKind.u64.wrap (Int.tdiv t273 (IntKind.u64.wrap (bt271.1)))) + 1)) (decide (x0 < 0))).bind fun bt274 => (some (bt274.1, bt274.2))) else ((colonnaderef01_signed.f k (IntKind.u64.wrap (Int.tdiv t273 (IntKind.u64.wrap (bt271.1)))) (decide (x0 < 0))).bind fun bt276 => (some (bt276.1, bt276.2)))))))) else (some (0, 10))))
def colonnaderef01_Scale.f (k : Nat) (a0 : Int) (a1 : Int) (a2 : Int) : Option (Int × Int) := if a1 < 0 then (colonnaderef01_Scale.j0 k a0 a1 a2 true) else (if a1 > 18 then (colonnaderef01_Scale.j0 k a0 a1 a2 true) else (if a2 < 0 then (colonnaderef01_Scale.j0 k a0 a1 a2 true) else (colonnaderef01_Scale.j0 k a0 a1 a2 (decide (a2 > 18)))))
def colonnaderef01_plain.l0 : Nat → Int → Int → ByteArray → Option (ByteArray)
  | 0, _, _, _ => none
  | k + 1, x0, x1, x5 => if x0 > 0 then ((some (([(IntKind.u64.wrap (48 + (Int.tmod x0 10))) % 256] : List Int) : List Int)).bind fun y215 => (if (strOfNums y215).size + x5.size ≤ 9223372036854775807 then (colonnaderef01_plain.l0 k (IntKind.u64.wrap (Int.tdiv x0 10)) x1 ((strOfNums y215) ++ x5)) else (none))) else (if (x5.size : Int) < x1 then ((some (([(IntKind.u64.wrap (48 + (Int.tmod x0 10))) % 256] : List Int) : List Int)).bind fun y218 => (if (strOfNums y218).size + x5.size ≤ 9223372036854775807 then (colonnaderef01_plain.l0 k (IntKind.u64.wrap (Int.tdiv x0 10)) x1 ((strOfNums y218) ++ x5)) else (none))) else (some x5))
def colonnaderef01_plain.f (k : Nat) (a0 : Int) (a1 : Int) : Option (ByteArray) := colonnaderef01_plain.l0 k a0 a1 (⟨#[]⟩ : ByteArray)
def colonnaderef01_FormatInt.f (k : Nat) (a0 : Int) : Option (ByteArray) := if a0 < 0 then ((colonnaderef01_amount.f a0).bind fun t221 => ((colonnaderef01_plain.f k t221 1).bind fun t222 => (if 1 + t222.size ≤ 9223372036854775807 then (some ((⟨#[45]⟩ : ByteArray) ++ t222)) else (none)))) else ((colonnaderef01_amount.f a0).bind fun t223 => ((colonnaderef01_plain.f k t223 1).bind fun t224 => (some t224)))
def colonnaderef01_FormatDec.sgn (b : Bool) (s : ByteArray) : ByteArray := if b = true then (⟨#[45]⟩ : ByteArray) ++ s else s
def colonnaderef01_FormatDec.pnt (n : Nat) (p : ByteArray) : ByteArray := if 0 < n then (p.extract 0 (p.size - n) ++ (⟨#[46]⟩ : ByteArray)) ++ p.extract (p.size - n) p.size else p
def colonnaderef01_FormatDec.f (k : Nat) (a0 : Int) (a1 : Int) : Option (ByteArray × Int) := if 0 ≤ a1 then (if a1 ≤ 18 then ((colonnaderef01_amount.f a0).bind fun t => ((colonnaderef01_plain.f k t (wrap64 (a1 + 1))).bind fun p => (if p.size ≤ 1000000 ∧ a1.toNat ≤ p.size then some (colonnaderef01_FormatDec.sgn (decide (a0 < 0)) (colonnaderef01_FormatDec.pnt a1.toNat p), 0) else none))) else some ((⟨#[]⟩ : ByteArray), 1)) else some ((⟨#[]⟩ : ByteArray), 1)
def colonnaderef01_FormatDay.f (k : Nat) (a0 : Int) : Option (ByteArray × Int) := (colonnaderef01_Civil.f k a0).bind fun bt230 => (if bt230.2.2.2 = 0 then ((colonnaderef01_plain.f k (IntKind.u64.wrap (bt230.1)) 4).bind fun t234 => (if t234.size + 1 ≤ 9223372036854775807 then ((colonnaderef01_plain.f k (IntKind.u64.wrap (bt230.2.1)) 2).bind fun t235 => (if (t234 ++ (⟨#[45]⟩ : ByteArray)).size + t235.size ≤ 9223372036854775807 then (if ((t234 ++ (⟨#[45]⟩ : ByteArray)) ++ t235).size + 1 ≤ 9223372036854775807 then ((colonnaderef01_plain.f k (IntKind.u64.wrap (bt230.2.2.1)) 2).bind fun t236 => (if (((t234 ++ (⟨#[45]⟩ : ByteArray)) ++ t235) ++ (⟨#[45]⟩ : ByteArray)).size + t236.size ≤ 9223372036854775807 then (some ((((t234 ++ (⟨#[45]⟩ : ByteArray)) ++ t235) ++ (⟨#[45]⟩ : ByteArray)) ++ t236, 0)) else (none))) else (none)) else (none))) else (none))) else (some ((⟨#[]⟩ : ByteArray), bt230.2.2.2)))
end Go.Proofs.YtjpgjggbanpegaaGreatDoor.D
