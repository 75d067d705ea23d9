/- The Lean functions that stand for the reference's Go functions elsewhere: here as plain functions; nothing of this program is told of them. -/
import Derived.Test.YtgkkbbpcdjogoaaDoorT0
namespace Go.Proofs.YtgkkbbpcdjogoaaDoor.T
open Go.RowKit Go.Proofs.YtgkkbbpcdjogoaaDoorW.PrintWords Go.Proofs.YtgkkbbpcdjogoaaDoorW.PrintLast
def colonnaderef01_leap.f (a0 : Int) : Option (Bool) := if (Int.tmod a0 4) = 0 then (if (Int.tmod a0 100) = 0 then (some ((Int.tmod a0 400) == 0)) else (some true)) else (some false)
def colonnaderef01_length.j0 : Nat → Int → Int → Bool → Option (Int)
  | 0, _, _, _ => none
  | k + 1, x0, x5, x6 => if x6 = true then (some 30) else (if x5 = 2 then ((colonnaderef01_leap.f x0).bind fun t164 => (if t164 = true then (some 29) else (some 28))) else (some 31))
def colonnaderef01_length.f (k : Nat) (a0 : Int) (a1 : Int) : Option (Int) := if a1 = 4 then (colonnaderef01_length.j0 k a0 a1 (a1 == 4)) else (if a1 = 6 then (colonnaderef01_length.j0 k a0 a1 (a1 == 6)) else (if a1 = 9 then (colonnaderef01_length.j0 k a0 a1 (a1 == 9)) else (colonnaderef01_length.j0 k a0 a1 (a1 == 11))))
def colonnaderef01_before.f (a0 : Int) : Option (Int) := some (wrap64 ((wrap64 ((wrap64 ((wrap64 (365 * (wrap64 (a0 - 1)))) + (wrap64 (Int.tdiv (wrap64 (a0 - 1)) 4)))) - (wrap64 (Int.tdiv (wrap64 (a0 - 1)) 100)))) + (wrap64 (Int.tdiv (wrap64 (a0 - 1)) 400))))
mutual
def colonnaderef01_Day.j0 : Nat → Int → Int → Int → Bool → Option (Int × Int)
  | 0, _, _, _, _ => none
  | k + 1, x0, x1, x2, x34 => if x34 = true then (some (0, 13)) else ((colonnaderef01_before.f x0).bind fun t166 => (colonnaderef01_Day.l0 k x0 x1 (wrap64 ((wrap64 (t166 + (-719162))) + (wrap64 (x2 - 1)))) 1))
def colonnaderef01_Day.l0 : Nat → Int → Int → Int → Int → Option (Int × Int)
  | 0, _, _, _, _ => none
  | k + 1, x0, x1, x8, x9 => if x9 < x1 then ((colonnaderef01_length.f k x0 x9).bind fun t167 => (colonnaderef01_Day.l0 k x0 x1 (wrap64 (x8 + t167)) (wrap64 (x9 + 1)))) else (some (x8, 0))
end
def colonnaderef01_Day.f (k : Nat) (a0 : Int) (a1 : Int) (a2 : Int) : Option (Int × Int) := if a0 < 1 then (colonnaderef01_Day.j0 k a0 a1 a2 true) else (if a0 > 9999 then (colonnaderef01_Day.j0 k a0 a1 a2 true) else (if a1 < 1 then (colonnaderef01_Day.j0 k a0 a1 a2 true) else (if a1 > 12 then (colonnaderef01_Day.j0 k a0 a1 a2 true) else (if a2 < 1 then (colonnaderef01_Day.j0 k a0 a1 a2 true) else ((colonnaderef01_length.f k a0 a1).bind fun t165 => (colonnaderef01_Day.j0 k a0 a1 a2 (decide (a2 > t165))))))))
mutual
def colonnaderef01_Civil.j0 : Nat → Int → Bool → Option (Int × Int × Int × Int)
  | 0, _, _ => none
  | k + 1, x0, x14 => if x14 = true then (some (0, 0, 0, 13)) else (colonnaderef01_Civil.l0 k (wrap64 (x0 + 719162)) (wrap64 ((wrap64 (Int.tdiv (wrap64 (x0 + 719162)) 366)) + 1)))
def colonnaderef01_Civil.l0 : Nat → Int → Int → Option (Int × Int × Int × Int)
  | 0, _, _ => none
  | k + 1, x0, x6 => (colonnaderef01_before.f (wrap64 (x6 + 1))).bind fun t173 => (if t173 ≤ x0 then (colonnaderef01_Civil.l0 k x0 (wrap64 (x6 + 1))) else ((colonnaderef01_before.f x6).bind fun t174 => (colonnaderef01_Civil.l1 k x6 (wrap64 (x0 - t174)) 1)))
def colonnaderef01_Civil.l1 : Nat → Int → Int → Int → Option (Int × Int × Int × Int)
  | 0, _, _, _ => none
  | k + 1, x6, x7, x8 => (colonnaderef01_length.f k x6 x8).bind fun t175 => (if x7 ≥ t175 then ((colonnaderef01_length.f k x6 x8).bind fun t176 => (colonnaderef01_Civil.l1 k x6 (wrap64 (x7 - t176)) (wrap64 (x8 + 1)))) else (some (x6, x8, wrap64 (x7 + 1), 0)))
end
def colonnaderef01_Civil.f (k : Nat) (a0 : Int) : Option (Int × Int × Int × Int) := if a0 < (-719162) then (colonnaderef01_Civil.j0 k a0 true) else (colonnaderef01_Civil.j0 k a0 (decide (a0 > 2932896)))
def colonnaderef01_amount.f (a0 : Int) : Option (Int) := if a0 < 0 then (some (IntKind.u64.wrap (-(IntKind.u64.wrap (a0))))) else (some (IntKind.u64.wrap (a0)))
def colonnaderef01_plain.l0 : Nat → Int → Int → ByteArray → Option (ByteArray)
  | 0, _, _, _ => none
  | k + 1, x0, x1, x5 => if x0 > 0 then ((some (([(IntKind.u64.wrap (48 + (Int.tmod x0 10))) % 256] : List Int) : List Int)).bind fun y202 => (if (strOfNums y202).size + x5.size ≤ 9223372036854775807 then (colonnaderef01_plain.l0 k (IntKind.u64.wrap (Int.tdiv x0 10)) x1 ((strOfNums y202) ++ x5)) else (none))) else (if (x5.size : Int) < x1 then ((some (([(IntKind.u64.wrap (48 + (Int.tmod x0 10))) % 256] : List Int) : List Int)).bind fun y205 => (if (strOfNums y205).size + x5.size ≤ 9223372036854775807 then (colonnaderef01_plain.l0 k (IntKind.u64.wrap (Int.tdiv x0 10)) x1 ((strOfNums y205) ++ x5)) else (none))) else (some x5))
def colonnaderef01_plain.f (k : Nat) (a0 : Int) (a1 : Int) : Option (ByteArray) := colonnaderef01_plain.l0 k a0 a1 (⟨#[]⟩ : ByteArray)
def colonnaderef01_FormatInt.f (k : Nat) (a0 : Int) : Option (ByteArray) := if a0 < 0 then ((colonnaderef01_amount.f a0).bind fun t225 => ((colonnaderef01_plain.f k t225 1).bind fun t226 => (if 1 + t226.size ≤ 9223372036854775807 then (some ((⟨#[45]⟩ : ByteArray) ++ t226)) else (none)))) else ((colonnaderef01_amount.f a0).bind fun t227 => ((colonnaderef01_plain.f k t227 1).bind fun t228 => (some t228)))
def colonnaderef01_FormatDec.sgn (b : Bool) (s : ByteArray) : ByteArray := if b = true then (⟨#[45]⟩ : ByteArray) ++ s else s
def colonnaderef01_FormatDec.pnt (n : Nat) (p : ByteArray) : ByteArray := if 0 < n then (p.extract 0 (p.size - n) ++ (⟨#[46]⟩ : ByteArray)) ++ p.extract (p.size - n) p.size else p
def colonnaderef01_FormatDec.f (k : Nat) (a0 : Int) (a1 : Int) : Option (ByteArray × Int) := if 0 ≤ a1 then (if a1 ≤ 18 then ((colonnaderef01_amount.f a0).bind fun t => ((colonnaderef01_plain.f k t (wrap64 (a1 + 1))).bind fun p => (if p.size ≤ 1000000 ∧ a1.toNat ≤ p.size then some (colonnaderef01_FormatDec.sgn (decide (a0 < 0)) (colonnaderef01_FormatDec.pnt a1.toNat p), 0) else none))) else some ((⟨#[]⟩ : ByteArray), 1)) else some ((⟨#[]⟩ : ByteArray), 1)
def colonnaderef01_FormatDay.f (k : Nat) (a0 : Int) : Option (ByteArray × Int) := (colonnaderef01_Civil.f k a0).bind fun bt218 => (if bt218.2.2.2 = 0 then ((colonnaderef01_plain.f k (IntKind.u64.wrap (bt218.1)) 4).bind fun t222 => (if t222.size + 1 ≤ 9223372036854775807 then ((colonnaderef01_plain.f k (IntKind.u64.wrap (bt218.2.1)) 2).bind fun t223 => (if (t222 ++ (⟨#[45]⟩ : ByteArray)).size + t223.size ≤ 9223372036854775807 then (if ((t222 ++ (⟨#[45]⟩ : ByteArray)) ++ t223).size + 1 ≤ 9223372036854775807 then ((colonnaderef01_plain.f k (IntKind.u64.wrap (bt218.2.2.1)) 2).bind fun t224 => (if (((t222 ++ (⟨#[45]⟩ : ByteArray)) ++ t223) ++ (⟨#[45]⟩ : ByteArray)).size + t224.size ≤ 9223372036854775807 then (some ((((t222 ++ (⟨#[45]⟩ : ByteArray)) ++ t223) ++ (⟨#[45]⟩ : ByteArray)) ++ t224, 0)) else (none))) else (none)) else (none))) else (none))) else (some ((⟨#[]⟩ : ByteArray), bt218.2.2.2)))
end Go.Proofs.YtgkkbbpcdjogoaaDoor.T
