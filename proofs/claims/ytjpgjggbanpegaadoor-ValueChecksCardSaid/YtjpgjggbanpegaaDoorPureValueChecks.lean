/- ValueChecks: what the printed law computes is true, for any value. -/
import Derived.Test.YtjpgjggbanpegaaDoorPureBeg02
import Derived.Test.YtjpgjggbanpegaaDoorC90
import Derived.Test.YtjpgjggbanpegaaDoorC10
import Derived.Test.YtjpgjggbanpegaaDoorC11
import Derived.Test.YtjpgjggbanpegaaDoorC8
import Derived.Test.YtjpgjggbanpegaaDoorC9
namespace Go.Proofs.YtjpgjggbanpegaaDoor.Pure
open Go.RowKit Go.Proofs.YtjpgjggbanpegaaDoor.C Go.Proofs.YtjpgjggbanpegaaDoorW.PrintWords Go.Proofs.YtjpgjggbanpegaaDoorW.PrintLast
/-- whether a type may be -/
def typeOk (a b : Int) : Prop := 1 ≤ a ∧ a ≤ 5 ∧ 0 ≤ b ∧ b ≤ 18 ∧ (b = 0 ∨ a = 3)
instance (a b : Int) : Decidable (typeOk a b) := by unfold typeOk; exact inferInstance
theorem CheckType_is (a b : Int) : value_CheckType.f a b = some (if typeOk a b then 0 else 21) := by
  unfold value_CheckType.f value_scaled.f
  by_cases h1 : a < 1
  · rw [if_pos h1, if_neg (by unfold typeOk; omega)]
  · rw [if_neg h1]
    by_cases h2 : a > 5
    · rw [if_pos h2, if_neg (by unfold typeOk; omega)]
    · rw [if_neg h2]
      by_cases h3 : b ≥ 0
      · rw [if_pos h3, Option.bind_some]
        by_cases h4 : b ≤ 18
        · rw [if_pos (by simpa using h4)]
          by_cases h5 : b = 0
          · rw [if_pos h5, if_pos (by unfold typeOk; omega)]
          · rw [if_neg h5]
            by_cases h6 : a = 3
            · rw [if_pos h6, if_pos (by unfold typeOk; omega)]
            · rw [if_neg h6, if_neg (by unfold typeOk; omega)]
        · rw [if_neg (by simpa using h4), if_neg (by unfold typeOk; omega)]
      · rw [if_neg h3, Option.bind_some, if_neg (by decide), if_neg (by unfold typeOk; omega)]
theorem refCheckType_is (a b : Int) : colonnaderef02_CheckType.f a b = some (if typeOk a b then 0 else 21) := by
  unfold colonnaderef02_CheckType.f
  by_cases h1 : a < 1
  · rw [if_pos h1, if_neg (by unfold typeOk; omega)]
  · rw [if_neg h1]
    by_cases h2 : a > 5
    · rw [if_pos h2, if_neg (by unfold typeOk; omega)]
    · rw [if_neg h2]
      by_cases h3 : b < 0
      · rw [if_pos h3, if_neg (by unfold typeOk; omega)]
      · rw [if_neg h3]
        by_cases h4 : b > 18
        · rw [if_pos h4, if_neg (by unfold typeOk; omega)]
        · rw [if_neg h4]
          by_cases h6 : a = 3
          · rw [if_pos h6, if_pos (by unfold typeOk; omega)]
          · rw [if_neg h6]
            by_cases h5 : b = 0
            · rw [if_pos h5, if_pos (by unfold typeOk; omega)]
            · rw [if_neg h5, if_neg (by unfold typeOk; omega)]
theorem Fits_eq (v : Int) : ∃ b : Bool, num_Fits.f v = some b ∧ colonnaderef01_Fits.f v = some b := by
  unfold num_Fits.f colonnaderef01_Fits.f
  by_cases h1 : v ≥ (-999999999999999999) <;> by_cases h2 : v ≤ 999999999999999999 <;> simp [h1, h2] <;> omega
theorem Check_same (a0 a1 : Int) (a2 : Bool) (a3 : Int) (a4 : ByteArray) : ∃ r, value_Check.f a0 a1 a2 a3 a4 = some r ∧ colonnaderef02_Check.f a0 a1 a2 a3 a4 = some r := by
  unfold value_Check.f colonnaderef02_Check.f
  rw [CheckType_is, refCheckType_is]
  obtain ⟨b, f1, f2⟩ := Fits_eq a3
  simp only [Option.bind_some]
  by_cases ht : typeOk a0 a1
  · rw [if_pos ht, if_pos rfl, if_pos rfl]
    cases a2 with
    | true =>
      rw [if_pos rfl, if_pos rfl]
      by_cases h1 : a4.toList = [] <;> by_cases h2 : a3 = 0 <;> simp [h1, h2]
    | false =>
      simp only [Bool.false_eq_true, if_false]
      by_cases k1 : a0 = 1
      · subst k1
        by_cases h1 : a4.toList = [] <;> by_cases h2 : a3 = 0 <;> by_cases h3 : a3 = 1 <;> simp [h1, h2, h3]
      · by_cases k3 : a0 = 3
        · subst k3
          rw [f1, f2]
          by_cases h1 : a4.toList = [] <;> cases b <;> simp [h1]
        · by_cases k5 : a0 = 5
          · subst k5
            by_cases h1 : a4.toList = []
            · by_cases h2 : a3 ≥ -719162
              · have h2' : ¬ a3 < -719162 := by omega
                by_cases h3 : a3 ≤ 2932896
                · have h3' : ¬ a3 > 2932896 := by omega
                  simp [h1, h2, h2', h3, h3']
                · have h3' : a3 > 2932896 := by omega
                  simp [h1, h2, h2', h3, h3']
              · have h2' : a3 < -719162 := by omega
                simp [h1, h2, h2']
            · simp [h1]
          · by_cases k4 : a0 = 4
            · subst k4
              by_cases h2 : a3 = 0
              · by_cases h3 : (a4.size : Int) ≤ 256
                · have h3' : ¬ (a4.size : Int) > 256 := by omega
                  simp [h2, h3, h3']
                · have h3' : (a4.size : Int) > 256 := by omega
                  simp [h2, h3, h3']
              · simp [h2]
            · by_cases h1 : a4.toList = [] <;> simp [h1, k1, k3, k4, k5]
  · exact ⟨21, by rw [if_neg ht, if_neg (by decide)], by rw [if_neg ht, if_neg (by decide)]⟩
theorem ValueChecks (s : S25) {G : Prop} (_w0 : G) : ∃ k, colonnadelaw02_ValueChecks.f k s.f0.f0 s.f0.f1 s.f1 s.f2 s.f3 = some true := by
  refine ⟨60, ?_⟩
  generalize s.f0.f0 = a0_0
  generalize s.f0.f1 = a0_1
  generalize s.f1 = a0_2
  generalize s.f2 = a0_3
  generalize s.f3 = a0_4
  obtain ⟨r, h1, h2⟩ := Check_same a0_0 a0_1 a0_2 a0_3 a0_4
  unfold colonnadelaw02_ValueChecks.f
  rw [begun02 60 (by omega), CheckType_is, refCheckType_is, h1, h2]
  simp only [Option.bind_some, if_true]
  have hb : value_OfBool.f a0_2 = some (1, 0, false, if a0_2 = true then 1 else 0, (⟨#[]⟩ : ByteArray)) := by cases a0_2 <;> rfl
  have hb2 : colonnaderef02_OfBool.f a0_2 = some (1, 0, false, if a0_2 = true then 1 else 0, (⟨#[]⟩ : ByteArray)) := by cases a0_2 <;> rfl
  rw [hb, hb2]
  simp [value_None.f, colonnaderef02_None.f, value_OfInt.f, value_of.f, colonnaderef02_OfInt.f, value_OfDec.f, colonnaderef02_OfDec.f, value_OfText.f, colonnaderef02_OfText.f, value_OfDay.f, colonnaderef02_OfDay.f]
end Go.Proofs.YtjpgjggbanpegaaDoor.Pure
