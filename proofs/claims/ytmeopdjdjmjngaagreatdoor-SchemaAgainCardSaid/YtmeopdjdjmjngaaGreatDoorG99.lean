/- The Lean functions that stand for the reference's Go functions elsewhere: here as plain functions; nothing of this program is told of them. -/
import Derived.Test.YtmeopdjdjmjngaaGreatDoorG6
namespace Go.Proofs.YtmeopdjdjmjngaaGreatDoor.G
open Go.RowKit Go.Proofs.YtmeopdjdjmjngaaGreatDoorW.PrintWords Go.Proofs.YtmeopdjdjmjngaaGreatDoorW.PrintLast
def colonnaderef01_product.f (a0 : Int) (a1 : Int) : Option (Int × Int) := some (IntKind.u64.wrap ((IntKind.u64.wrap ((IntKind.u64.wrap ((a0 / 4294967296) * (a1 / 4294967296))) + ((IntKind.u64.wrap ((IntKind.u64.wrap ((a0 / 4294967296) * (Go.bits .and .u64 a1 4294967295))) + ((IntKind.u64.wrap ((Go.bits .and .u64 a0 4294967295) * (Go.bits .and .u64 a1 4294967295))) / 4294967296))) / 4294967296))) + ((IntKind.u64.wrap ((IntKind.u64.wrap ((Go.bits .and .u64 a0 4294967295) * (a1 / 4294967296))) + (Go.bits .and .u64 (IntKind.u64.wrap ((IntKind.u64.wrap ((a0 / 4294967296) * (Go.bits .and .u64 a1 4294967295))) + ((IntKind.u64.wrap ((Go.bits .and .u64 a0 4294967295) * (Go.bits .and .u64 a1 4294967295))) / 4294967296))) 4294967295))) / 4294967296)), Go.bits .or .u64 (IntKind.u64.wrap ((IntKind.u64.wrap ((IntKind.u64.wrap ((Go.bits .and .u64 a0 4294967295) * (a1 / 4294967296))) + (Go.bits .and .u64 (IntKind.u64.wrap ((IntKind.u64.wrap ((a0 / 4294967296) * (Go.bits .and .u64 a1 4294967295))) + ((IntKind.u64.wrap ((Go.bits .and .u64 a0 4294967295) * (Go.bits .and .u64 a1 4294967295))) / 4294967296))) 4294967295))) * 4294967296)) (Go.bits .and .u64 (IntKind.u64.wrap ((Go.bits .and .u64 a0 4294967295) * (Go.bits .and .u64 a1 4294967295))) 4294967295))
def colonnaderef01_amount.f (a0 : Int) : Option (Int) := if a0 < 0 then (some (IntKind.u64.wrap (-(IntKind.u64.wrap (a0))))) else (some (IntKind.u64.wrap (a0)))
def colonnaderef01_signed.j0 : Nat → Int → Bool → Option (Int × Int)
 | 0, _, _ => none
 | k + 1, x0, x10 => if x10 = true then (some (wrap64 (IntKind.u64.wrap (-x0)), 0)) else (if x0 > 9223372036854775807 then (some (0, 10)) else (some (wrap64 (x0), 0)))
def colonnaderef01_signed.f (k : Nat) (a0 : Int) (a1 : Bool) : Option (Int × Int) := if a1 = true then (colonnaderef01_signed.j0 k a0 (decide (a0 ≤ 9223372036854775808))) else (colonnaderef01_signed.j0 k a0 false)
theorem colonnaderef01_signed.mono_l : ∀ k, (∀ y0 y1, LeO (colonnaderef01_signed.j0 k y0 y1) (colonnaderef01_signed.j0 (k + 1) y0 y1))
 | 0 => fun _ _ r h => by simp [colonnaderef01_signed.j0] at h
 | k + 1 => by
  have ih0 := colonnaderef01_signed.mono_l k
  ·intro y0 y1
   unfold colonnaderef01_signed.j0
   repeat' first
   | (with_reducible exact ih0 _ _)
   | (with_reducible exact LeO.refl _)
   | (with_reducible exact LeO.none _)
   | (with_reducible refine LeO.ite ?_ ?_)
   | (with_reducible refine LeO.bind ?_ (fun _ => ?_))
   | exact ih0 _ _
   | exact LeO.none _
   | refine LeO.ite ?_ ?_
   | refine LeO.bind ?_ (fun _ => ?_)
theorem colonnaderef01_signed.mono : ∀ a0 a1 k, LeO (colonnaderef01_signed.f k a0 a1) (colonnaderef01_signed.f (k + 1) a0 a1) := by
 intro a0 a1 k
 have ih0 := colonnaderef01_signed.mono_l k
 unfold colonnaderef01_signed.f
 repeat' first
   | (with_reducible exact ih0 _ _)
   | (with_reducible exact LeO.refl _)
   | (with_reducible exact LeO.none _)
   | (with_reducible refine LeO.ite ?_ ?_)
   | (with_reducible refine LeO.bind ?_ (fun _ => ?_))
   | exact ih0 _ _
   | exact LeO.none _
   | refine LeO.ite ?_ ?_
   | refine LeO.bind ?_ (fun _ => ?_)
def colonnaderef01_Mul.f (k : Nat) (a0 : Int) (a1 : Int) : Option (Int × Int) := (colonnaderef01_amount.f a0).bind fun t197 => ((colonnaderef01_amount.f a1).bind fun t198 => ((colonnaderef01_product.f t197 t198).bind fun bt199 => (if bt199.1 = 0 then ((colonnaderef01_signed.f k bt199.2 ((decide (a0 < 0)) != (decide (a1 < 0)))).bind fun bt201 => (some (bt201.1, bt201.2))) else (some (0, 10)))))
theorem colonnaderef01_Mul.mono : ∀ a0 a1 k, LeO (colonnaderef01_Mul.f k a0 a1) (colonnaderef01_Mul.f (k + 1) a0 a1) := by
 intro a0 a1 k
 unfold colonnaderef01_Mul.f
 repeat' first
   | (with_reducible exact colonnaderef01_signed.mono _ _ _)
   | (with_reducible exact LeO.refl _)
   | (with_reducible exact LeO.none _)
   | (with_reducible refine LeO.ite ?_ ?_)
   | (with_reducible refine LeO.bind ?_ (fun _ => ?_))
   | exact colonnaderef01_signed.mono _ _ _
   | exact LeO.none _
   | refine LeO.ite ?_ ?_
   | refine LeO.bind ?_ (fun _ => ?_)
mutual
def colonnaderef01_Pow10.j0 : Nat → Int → Bool → Option (Int × Int)
 | 0, _, _ => none
 | k + 1, x0, x11 => if x11 = true then (some (0, 1)) else (colonnaderef01_Pow10.l0 k x0 1 0)
def colonnaderef01_Pow10.l0 : Nat → Int → Int → Int → Option (Int × Int)
 | 0, _, _, _ => none
 | k + 1, x0, x4, x5 => if x5 < x0 then (colonnaderef01_Pow10.l0 k x0 (wrap64 (x4 * 10)) (wrap64 (x5 + 1))) else (some (x4, 0))
end
def colonnaderef01_Pow10.f (k : Nat) (a0 : Int) : Option (Int × Int) := if a0 < 0 then (colonnaderef01_Pow10.j0 k a0 true) else (colonnaderef01_Pow10.j0 k a0 (decide (a0 > 18)))
theorem colonnaderef01_Pow10.mono_l : ∀ k, (∀ y0 y1, LeO (colonnaderef01_Pow10.j0 k y0 y1) (colonnaderef01_Pow10.j0 (k + 1) y0 y1)) ∧ (∀ y0 y1 y2, LeO (colonnaderef01_Pow10.l0 k y0 y1 y2) (colonnaderef01_Pow10.l0 (k + 1) y0 y1 y2))
 | 0 => ⟨fun _ _ r h => by simp [colonnaderef01_Pow10.j0] at h, fun _ _ _ r h => by simp [colonnaderef01_Pow10.l0] at h⟩
 | k + 1 => by
  obtain ⟨ih0, ih1⟩ := colonnaderef01_Pow10.mono_l k
  refine ⟨?_, ?_⟩
  ·intro y0 y1
   unfold colonnaderef01_Pow10.j0
   repeat' first
   | (with_reducible exact ih0 _ _)
   | (with_reducible exact ih1 _ _ _)
   | (with_reducible exact LeO.refl _)
   | (with_reducible exact LeO.none _)
   | (with_reducible refine LeO.ite ?_ ?_)
   | (with_reducible refine LeO.bind ?_ (fun _ => ?_))
   | exact ih0 _ _
   | exact ih1 _ _ _
   | exact LeO.none _
   | refine LeO.ite ?_ ?_
   | refine LeO.bind ?_ (fun _ => ?_)
  ·intro y0 y1 y2
   unfold colonnaderef01_Pow10.l0
   repeat' first
   | (with_reducible exact ih0 _ _)
   | (with_reducible exact ih1 _ _ _)
   | (with_reducible exact LeO.refl _)
   | (with_reducible exact LeO.none _)
   | (with_reducible refine LeO.ite ?_ ?_)
   | (with_reducible refine LeO.bind ?_ (fun _ => ?_))
   | exact ih0 _ _
   | exact ih1 _ _ _
   | exact LeO.none _
   | refine LeO.ite ?_ ?_
   | refine LeO.bind ?_ (fun _ => ?_)
theorem colonnaderef01_Pow10.mono : ∀ a0 k, LeO (colonnaderef01_Pow10.f k a0) (colonnaderef01_Pow10.f (k + 1) a0) := by
 intro a0 k
 obtain ⟨ih0, ih1⟩ := colonnaderef01_Pow10.mono_l k
 unfold colonnaderef01_Pow10.f
 repeat' first
   | (with_reducible exact ih0 _ _)
   | (with_reducible exact ih1 _ _ _)
   | (with_reducible exact LeO.refl _)
   | (with_reducible exact LeO.none _)
   | (with_reducible refine LeO.ite ?_ ?_)
   | (with_reducible refine LeO.bind ?_ (fun _ => ?_))
   | exact ih0 _ _
   | exact ih1 _ _ _
   | exact LeO.none _
   | refine LeO.ite ?_ ?_
   | refine LeO.bind ?_ (fun _ => ?_)
def colonnaderef01_Scale.j0 : Nat → Int → Int → Int → Bool → Option (Int × Int)
 | 0, _, _, _, _ => none
 | k + 1, x0, x1, x2, x29 => if x29 = true then (some (0, 1)) else ((colonnaderef01_Fits.f x0).bind fun t203 => (if t203 = true then (if x2 ≥ x1 then ((colonnaderef01_Pow10.f k (wrap64 (x2 - x1))).bind fun bt204 => ((colonnaderef01_Mul.f k x0 bt204.1).bind fun bt206 => (if bt206.2 = 0 then ((colonnaderef01_Fits.f bt206.1).bind fun t208 => (if t208 = true then (some (bt206.1, 0)) else (some (0, 10)))) else (some (0, 10))))) else ((colonnaderef01_Pow10.f k (wrap64 (x1 - x2))).bind fun bt209 => ((colonnaderef01_amount.f x0).bind fun t211 => (if (IntKind.u64.wrap (bt209.1)) = 0 then (none) else (if (IntKind.u64.wrap (2 * (Int.tmod t211 (IntKind.u64.wrap (bt209.1))))) ≥ (IntKind.u64.wrap (bt209.1)) then ((colonnaderef01_signed.f k (IntKind.u64.wrap ((IntKind.u64.wrap (Int.tdiv t211 (IntKind.u64.wrap (bt209.1)))) + 1)) (decide (x0 < 0))).bind fun bt212 => (some (bt212.1, bt212.2))) else ((colonnaderef01_signed.f k (IntKind.u64.wrap (Int.tdiv t211 (IntKind.u64.wrap (bt209.1)))) (decide (x0 < 0))).bind fun bt214 => (some (bt214.1, bt214.2)))))))) else (some (0, 10))))
def colonnaderef01_Scale.f (k : Nat) (a0 : Int) (a1 : Int) (a2 : Int) : Option (Int × Int) := if a1 < 0 then (colonnaderef01_Scale.j0 k a0 a1 a2 true) else (if a1 > 18 then (colonnaderef01_Scale.j0 k a0 a1 a2 true) else (if a2 < 0 then (colonnaderef01_Scale.j0 k a0 a1 a2 true) else (colonnaderef01_Scale.j0 k a0 a1 a2 (decide (a2 > 18)))))
theorem colonnaderef01_Scale.mono_l : ∀ k, (∀ y0 y1 y2 y3, LeO (colonnaderef01_Scale.j0 k y0 y1 y2 y3) (colonnaderef01_Scale.j0 (k + 1) y0 y1 y2 y3))
 | 0 => fun _ _ _ _ r h => by simp [colonnaderef01_Scale.j0] at h
 | k + 1 => by
  have ih0 := colonnaderef01_Scale.mono_l k
  ·intro y0 y1 y2 y3
   unfold colonnaderef01_Scale.j0
   repeat' first
   | (with_reducible exact ih0 _ _ _ _)
   | (with_reducible exact colonnaderef01_Mul.mono _ _ _)
   | (with_reducible exact colonnaderef01_Pow10.mono _ _)
   | (with_reducible exact colonnaderef01_signed.mono _ _ _)
   | (with_reducible exact LeO.refl _)
   | (with_reducible exact LeO.none _)
   | (with_reducible refine LeO.ite ?_ ?_)
   | (with_reducible refine LeO.bind ?_ (fun _ => ?_))
   | exact ih0 _ _ _ _
   | exact colonnaderef01_Mul.mono _ _ _
   | exact colonnaderef01_Pow10.mono _ _
   | exact colonnaderef01_signed.mono _ _ _
   | exact LeO.none _
   | refine LeO.ite ?_ ?_
   | refine LeO.bind ?_ (fun _ => ?_)
theorem colonnaderef01_Scale.mono : ∀ a0 a1 a2 k, LeO (colonnaderef01_Scale.f k a0 a1 a2) (colonnaderef01_Scale.f (k + 1) a0 a1 a2) := by
 intro a0 a1 a2 k
 have ih0 := colonnaderef01_Scale.mono_l k
 unfold colonnaderef01_Scale.f
 repeat' first
   | (with_reducible exact ih0 _ _ _ _)
   | (with_reducible exact colonnaderef01_Mul.mono _ _ _)
   | (with_reducible exact colonnaderef01_Pow10.mono _ _)
   | (with_reducible exact colonnaderef01_signed.mono _ _ _)
   | (with_reducible exact LeO.refl _)
   | (with_reducible exact LeO.none _)
   | (with_reducible refine LeO.ite ?_ ?_)
   | (with_reducible refine LeO.bind ?_ (fun _ => ?_))
   | exact ih0 _ _ _ _
   | exact colonnaderef01_Mul.mono _ _ _
   | exact colonnaderef01_Pow10.mono _ _
   | exact colonnaderef01_signed.mono _ _ _
   | exact LeO.none _
   | refine LeO.ite ?_ ?_
   | refine LeO.bind ?_ (fun _ => ?_)
def colonnaderef02_family.f (a0 : Int) : Option (Int) := if a0 = 3 then (some 2) else (some a0)
def colonnaderef02_way.f (a0 : Int) (a1 : Int) : Option (Bool) := if a0 ≥ 1 then (if a0 ≤ 5 then (if a0 = a1 then (some true) else (if a1 = 4 then (some true) else (if a0 = 4 then (some true) else ((colonnaderef02_family.f a0).bind fun t194 => ((colonnaderef02_family.f a1).bind fun t195 => (some (t194 == t195))))))) else (some false)) else (some false)
def colonnaderef02_OfText.f (a0 : ByteArray) : Option (Int × Int × Bool × Int × ByteArray) := some (4, 0, false, 0, a0)
def colonnaderef02_None.f (a0_0 : Int) (a0_1 : Int) : Option (Int × Int × Bool × Int × ByteArray) := some (a0_0, a0_1, true, 0, (⟨#[]⟩ : ByteArray))
def colonnaderef02_scale.f (a0_0 : Int) (a0_1 : Int) (a0_2 : Bool) (a0_3 : Int) (a0_4 : ByteArray) : Option (Int) := if a0_0 = 3 then (some (mn (mx a0_1 0) 18)) else (some 0)
def colonnaderef02_Alike.f (a0_0 : Int) (a0_1 : Int) (a1_0 : Int) (a1_1 : Int) : Option (Bool) := (colonnaderef02_family.f a0_0).bind fun t191 => ((colonnaderef02_family.f a1_0).bind fun t192 => (if t191 = t192 then (if a0_0 ≥ 1 then (some (decide (a0_0 ≤ 5))) else (some false)) else (some false)))
mutual
def colonnaderef02_Cast.j0 : Nat → Int → Bool → Int → Int → Bool → Int → ByteArray → Int → Int → Int → Int → Bool → Int → ByteArray → Option (Int × Int × Bool × Int × ByteArray × Int)
 | 0, _, _, _, _, _, _, _, _, _, _, _, _, _, _ => none
 | k + 1, x7, x64, x218000, x218001, x218002, x218003, x218004, x219000, x219001, x233000, x233001, x233002, x233003, x233004 => if x64 = true then (if x7 = 3 then (if x218001 < 0 then (colonnaderef02_Cast.j1 k true x218000 x218001 x218002 x218003 x218004 x219000 x219001 x233000 x233001 x233002 x233003 x233004) else (colonnaderef02_Cast.j1 k (decide (x218001 > 18)) x218000 x218001 x218002 x218003 x218004 x219000 x219001 x233000 x233001 x233002 x233003 x233004)) else (colonnaderef02_Cast.j1 k false x218000 x218001 x218002 x218003 x218004 x219000 x219001 x233000 x233001 x233002 x233003 x233004)) else (some (x233000, x233001, x233002, x233003, x233004, 0))
def colonnaderef02_Cast.j1 : Nat → Bool → Int → Int → Bool → Int → ByteArray → Int → Int → Int → Int → Bool → Int → ByteArray → Option (Int × Int × Bool × Int × ByteArray × Int)
 | 0, _, _, _, _, _, _, _, _, _, _, _, _, _ => none
 | k + 1, x78, x218000, x218001, x218002, x218003, x218004, x219000, x219001, x233000, x233001, x233002, x233003, x233004 => if x78 = true then (some (0, 0, false, 0, (⟨#[]⟩ : ByteArray), 10)) else ((colonnaderef02_scale.f x218000 x218001 x218002 x218003 x218004).bind fun t233 => ((colonnaderef01_Scale.f k x218003 t233 x219001).bind fun bt234 => (if bt234.2 = 0 then (some (x233000, x233001, x233002, bt234.1, x233004, 0)) else (some (0, 0, false, 0, (⟨#[]⟩ : ByteArray), bt234.2)))))
end
def colonnaderef02_Cast.f (k : Nat) (a0_0 : Int) (a0_1 : Int) (a0_2 : Bool) (a0_3 : Int) (a0_4 : ByteArray) (a1_0 : Int) (a1_1 : Int) : Option (Int × Int × Bool × Int × ByteArray × Int) := (colonnaderef02_CheckType.f a1_0 a1_1).bind fun t220 => (if t220 = 0 then ((colonnaderef02_way.f a0_0 a1_0).bind fun t221 => (if t221 = true then (if a0_2 = true then ((colonnaderef02_None.f a1_0 a1_1).bind fun bt222 => (some (bt222.1, bt222.2.1, bt222.2.2.1, bt222.2.2.2.1, bt222.2.2.2.2, 0))) else (if a1_0 = 4 then (if a0_0 = 4 then (if (a0_4.size : Int) > 256 then (some (0, 0, false, 0, (⟨#[]⟩ : ByteArray), 10)) else ((colonnaderef02_OfText.f a0_4).bind fun bt227 => (some (bt227.1, bt227.2.1, bt227.2.2.1, bt227.2.2.2.1, bt227.2.2.2.2, 0)))) else (none)) else (if a0_0 = 4 then (none) else (if a0_0 = 3 then (colonnaderef02_Cast.j0 k a0_0 true a0_0 a0_1 a0_2 a0_3 a0_4 a1_0 a1_1 a1_0 a1_1 false a0_3 (⟨#[]⟩ : ByteArray)) else (colonnaderef02_Cast.j0 k a0_0 (a1_0 == 3) a0_0 a0_1 a0_2 a0_3 a0_4 a1_0 a1_1 a1_0 a1_1 false a0_3 (⟨#[]⟩ : ByteArray)))))) else (some (0, 0, false, 0, (⟨#[]⟩ : ByteArray), 21)))) else (some (0, 0, false, 0, (⟨#[]⟩ : ByteArray), t220)))
theorem colonnaderef02_Cast.mono_l : ∀ k, (∀ y0 y1 y2 y3 y4 y5 y6 y7 y8 y9 y10 y11 y12 y13, LeO (colonnaderef02_Cast.j0 k y0 y1 y2 y3 y4 y5 y6 y7 y8 y9 y10 y11 y12 y13) (colonnaderef02_Cast.j0 (k + 1) y0 y1 y2 y3 y4 y5 y6 y7 y8 y9 y10 y11 y12 y13)) ∧ (∀ y0 y1 y2 y3 y4 y5 y6 y7 y8 y9 y10 y11 y12, LeO (colonnaderef02_Cast.j1 k y0 y1 y2 y3 y4 y5 y6 y7 y8 y9 y10 y11 y12) (colonnaderef02_Cast.j1 (k + 1) y0 y1 y2 y3 y4 y5 y6 y7 y8 y9 y10 y11 y12))
 | 0 => ⟨fun _ _ _ _ _ _ _ _ _ _ _ _ _ _ r h => by simp [colonnaderef02_Cast.j0] at h, fun _ _ _ _ _ _ _ _ _ _ _ _ _ r h => by simp [colonnaderef02_Cast.j1] at h⟩
 | k + 1 => by
  obtain ⟨ih0, ih1⟩ := colonnaderef02_Cast.mono_l k
  refine ⟨?_, ?_⟩
  ·intro y0 y1 y2 y3 y4 y5 y6 y7 y8 y9 y10 y11 y12 y13
   unfold colonnaderef02_Cast.j0
   repeat' first
   | (with_reducible exact ih0 _ _ _ _ _ _ _ _ _ _ _ _ _ _)
   | (with_reducible exact ih1 _ _ _ _ _ _ _ _ _ _ _ _ _)
   | (with_reducible exact colonnaderef01_Scale.mono _ _ _ _)
   | (with_reducible exact LeO.refl _)
   | (with_reducible exact LeO.none _)
   | (with_reducible refine LeO.ite ?_ ?_)
   | (with_reducible refine LeO.bind ?_ (fun _ => ?_))
   | exact ih0 _ _ _ _ _ _ _ _ _ _ _ _ _ _
   | exact ih1 _ _ _ _ _ _ _ _ _ _ _ _ _
   | exact colonnaderef01_Scale.mono _ _ _ _
   | exact LeO.none _
   | refine LeO.ite ?_ ?_
   | refine LeO.bind ?_ (fun _ => ?_)
  ·intro y0 y1 y2 y3 y4 y5 y6 y7 y8 y9 y10 y11 y12
   unfold colonnaderef02_Cast.j1
   repeat' first
   | (with_reducible exact ih0 _ _ _ _ _ _ _ _ _ _ _ _ _ _)
   | (with_reducible exact ih1 _ _ _ _ _ _ _ _ _ _ _ _ _)
   | (with_reducible exact colonnaderef01_Scale.mono _ _ _ _)
   | (with_reducible exact LeO.refl _)
   | (with_reducible exact LeO.none _)
   | (with_reducible refine LeO.ite ?_ ?_)
   | (with_reducible refine LeO.bind ?_ (fun _ => ?_))
   | exact ih0 _ _ _ _ _ _ _ _ _ _ _ _ _ _
   | exact ih1 _ _ _ _ _ _ _ _ _ _ _ _ _
   | exact colonnaderef01_Scale.mono _ _ _ _
   | exact LeO.none _
   | refine LeO.ite ?_ ?_
   | refine LeO.bind ?_ (fun _ => ?_)
theorem colonnaderef02_Cast.mono : ∀ a0 a1 a2 a3 a4 a5 a6 k, LeO (colonnaderef02_Cast.f k a0 a1 a2 a3 a4 a5 a6) (colonnaderef02_Cast.f (k + 1) a0 a1 a2 a3 a4 a5 a6) := by
 intro a0 a1 a2 a3 a4 a5 a6 k
 obtain ⟨ih0, ih1⟩ := colonnaderef02_Cast.mono_l k
 unfold colonnaderef02_Cast.f
 repeat' first
   | (with_reducible exact ih0 _ _ _ _ _ _ _ _ _ _ _ _ _ _)
   | (with_reducible exact ih1 _ _ _ _ _ _ _ _ _ _ _ _ _)
   | (with_reducible exact colonnaderef01_Scale.mono _ _ _ _)
   | (with_reducible exact LeO.refl _)
   | (with_reducible exact LeO.none _)
   | (with_reducible refine LeO.ite ?_ ?_)
   | (with_reducible refine LeO.bind ?_ (fun _ => ?_))
   | exact ih0 _ _ _ _ _ _ _ _ _ _ _ _ _ _
   | exact ih1 _ _ _ _ _ _ _ _ _ _ _ _ _
   | exact colonnaderef01_Scale.mono _ _ _ _
   | exact LeO.none _
   | refine LeO.ite ?_ ?_
   | refine LeO.bind ?_ (fun _ => ?_)
def colonnaderef02_Cast.T22 : Bool × List (List Nat × List Nat) := (true, [([], []), ([0], [0]), ([], []), ([2], [2]), ([], []), ([4], [4]), ([1, 3, 5, 3], [1, 3, 5]), ([6], [6]), ([7], [7]), ([7], [7]), ([8, 6, 0, 1, 2, 3, 4, 5, 6, 7, 8], [8]), ([9, 10, 0, 1, 2, 3, 4, 5, 6, 7, 8, 9, 10], [9])])
def colonnaderef02_Cast.B22 : List Nat := [0, 1, 0, 4, 0, 16, 63, 127, 255, 255, 511, 2047]
end Go.Proofs.YtmeopdjdjmjngaaGreatDoor.G
