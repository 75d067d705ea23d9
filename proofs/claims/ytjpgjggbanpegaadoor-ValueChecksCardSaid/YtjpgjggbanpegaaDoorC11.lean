/- PRINTED BY A PROGRAM OF THIS SESSION (px.py, over the kit's print): Lean functions with the answers of Go functions of the given program, and proofs that the Go code comes to these answers; each under the conditions that its theorem states. -/
import Derived.Test.YtjpgjggbanpegaaDoorC0
import Derived.Test.YtjpgjggbanpegaaDoorC1
import Derived.Test.YtjpgjggbanpegaaDoorC8
import Derived.Test.YtjpgjggbanpegaaDoorC9
import Derived.Test.YtjpgjggbanpegaaDoorC10
namespace Go.Proofs.YtjpgjggbanpegaaDoor.C
open Go.RowKit Go.Proofs.YtjpgjggbanpegaaDoorW.PrintWords Go.Proofs.YtjpgjggbanpegaaDoorW.PrintLast Go.Proofs.YtjpgjggbanpegaaDoorW.PrintMore
attribute [local go_sem] max2_int min2_int max_two min_two max_three min_three max_four min_four   -- for this text's walks alone
set_option linter.unusedVariables false
set_option linter.unusedSimpArgs false

attribute [local go_sem high] eqA25
/-! ### colonnadelaw02_ValueChecks: function 5 -/
def colonnadelaw02_ValueChecks.f (k : Nat) (a0_0 : Int) (a0_1 : Int) (a0_2 : Bool) (a0_3 : Int) (a0_4 : ByteArray) : Option (Bool) := (colonnadelaw02_begun.f k).bind fun t250 => (if t250 = true then ((value_CheckType.f a0_0 a0_1).bind fun t251 => ((colonnaderef02_CheckType.f a0_0 a0_1).bind fun t252 => (if t251 = t252 then ((value_Check.f a0_0 a0_1 a0_2 a0_3 a0_4).bind fun t253 => ((colonnaderef02_Check.f a0_0 a0_1 a0_2 a0_3 a0_4).bind fun t254 => (if t253 = t254 then ((value_None.f a0_0 a0_1).bind fun bt255 => ((colonnaderef02_None.f a0_0 a0_1).bind fun bt260 => (if ((bt255.1 == bt260.1 && (bt255.2.1 == bt260.2.1)) && (bt255.2.2.1 == bt260.2.2.1 && (bt255.2.2.2.1 == bt260.2.2.2.1 && (bt255.2.2.2.2.toList == bt260.2.2.2.2.toList)))) = true then ((value_OfBool.f a0_2).bind fun bt265 => ((colonnaderef02_OfBool.f a0_2).bind fun bt270 => (if ((bt265.1 == bt270.1 && (bt265.2.1 == bt270.2.1)) && (bt265.2.2.1 == bt270.2.2.1 && (bt265.2.2.2.1 == bt270.2.2.2.1 && (bt265.2.2.2.2.toList == bt270.2.2.2.2.toList)))) = true then ((value_OfInt.f a0_3).bind fun bt275 => ((colonnaderef02_OfInt.f a0_3).bind fun bt280 => (if ((bt275.1 == bt280.1 && (bt275.2.1 == bt280.2.1)) && (bt275.2.2.1 == bt280.2.2.1 && (bt275.2.2.2.1 == bt280.2.2.2.1 && (bt275.2.2.2.2.toList == bt280.2.2.2.2.toList)))) = true then ((value_OfDec.f a0_3 a0_1).bind fun bt285 => ((colonnaderef02_OfDec.f a0_3 a0_1).bind fun bt290 => (if ((bt285.1 == bt290.1 && (bt285.2.1 == bt290.2.1)) && (bt285.2.2.1 == bt290.2.2.1 && (bt285.2.2.2.1 == bt290.2.2.2.1 && (bt285.2.2.2.2.toList == bt290.2.2.2.2.toList)))) = true then ((value_OfText.f a0_4).bind fun bt295 => ((colonnaderef02_OfText.f a0_4).bind fun bt300 => (if ((bt295.1 == bt300.1 && (bt295.2.1 == bt300.2.1)) && (bt295.2.2.1 == bt300.2.2.1 && (bt295.2.2.2.1 == bt300.2.2.2.1 && (bt295.2.2.2.2.toList == bt300.2.2.2.2.toList)))) = true then ((value_OfDay.f a0_3).bind fun bt305 => ((colonnaderef02_OfDay.f a0_3).bind fun bt310 => (some ((bt305.1 == bt310.1 && (bt305.2.1 == bt310.2.1)) && (bt305.2.2.1 == bt310.2.2.1 && (bt305.2.2.2.1 == bt310.2.2.2.1 && (bt305.2.2.2.2.toList == bt310.2.2.2.2.toList))))))) else (none)))) else (none)))) else (none)))) else (none)))) else (none)))) else (none)))) else (none)))) else (none))
theorem colonnadelaw02_ValueChecks.mono : ∀ a0 a1 a2 a3 a4 k, LeO (colonnadelaw02_ValueChecks.f k a0 a1 a2 a3 a4) (colonnadelaw02_ValueChecks.f (k + 1) a0 a1 a2 a3 a4) := by
  intro a0 a1 a2 a3 a4 k
  unfold colonnadelaw02_ValueChecks.f
  repeat' first
      | (with_reducible exact colonnadelaw02_begun.mono _)
      | (with_reducible exact LeO.refl _)
      | (with_reducible exact LeO.none _)
      | (with_reducible refine LeO.ite ?_ ?_)
      | (with_reducible refine LeO.bind ?_ (fun _ => ?_))
      | exact colonnadelaw02_begun.mono _
      | exact LeO.none _
      | refine LeO.ite ?_ ?_
      | refine LeO.bind ?_ (fun _ => ?_)
def colonnadelaw02_ValueChecks.T1 : Bool × List (List Nat × List Nat) := (true, [([], []), ([0, 0], [0]), ([1], [1]), ([2, 1], [1, 2]), ([3, 1, 1], [1, 3]), ([1], [1]), ([5, 1], [1, 5]), ([6, 4, 1], [1, 6]), ([4, 7, 1], [1, 4, 7]), ([1, 8], [1, 8]), ([9, 7], [9]), ([10], [10]), ([11, 10, 10], [10, 11]), ([10], [10]), ([13, 12, 10], [10, 13]), ([12, 14, 10], [10, 12, 14]), ([10, 15], [10, 15]), ([16, 14], [16]), ([17], [17]), ([18, 17], [17, 18]), ([19, 17, 17], [17, 19]), ([17], [17]), ([21, 17], [17, 21]), ([22, 20, 17], [17, 22]), ([20, 23, 17], [17, 20, 23]), ([17, 24], [17, 24]), ([25, 23], [25]), ([26], [26]), ([27, 26], [26, 27]), ([28, 26, 26], [26, 28]), ([26], [26]), ([30, 26], [26, 30]), ([31, 29, 26], [26, 31]), ([29, 32, 26], [26, 29, 32]), ([26, 33], [26, 33]), ([34, 32], [34]), ([35], [35]), ([36, 35], [35, 36]), ([37, 35, 35], [35, 37]), ([35], [35]), ([39, 35], [35, 39]), ([40, 38, 35], [35, 40]), ([38, 41, 35], [35, 38, 41]), ([35, 42], [35, 42]), ([43, 41], [43]), ([44], [44]), ([45, 44], [44, 45]), ([44], [44]), ([47, 44], [44, 47]), ([48, 44], [44, 48]), ([46, 49, 44, 44], [44, 46, 49]), ([44], [44]), ([51, 44], [44, 51]), ([44], [44]), ([53, 44], [44, 53]), ([54, 44], [44, 54]), ([52, 55, 50, 44], [44, 52, 55]), ([50, 56, 44], [44, 50, 56]), ([44, 57], [44, 57]), ([58, 56], [58]), ([59], [59]), ([60, 59], [59, 60]), ([61, 59, 59], [59, 61]), ([59], [59]), ([63, 59], [59, 63]), ([64, 62, 59], [59, 64]), ([62, 65, 59], [59, 62, 65]), ([59, 66], [59, 66]), ([67, 65], [67]), ([68], [68]), ([69, 68], [68, 69]), ([70, 68, 68], [68, 70]), ([68], [68]), ([72, 68], [68, 72]), ([73, 71, 68], [68, 73]), ([71, 74, 68], [68, 71, 74]), ([68, 75], [68, 75]), ([76, 74, 0, 1, 2, 3, 4, 5, 6, 7, 8, 9, 10, 11, 12, 13, 14, 15, 16, 17, 18, 19, 20, 21, 22, 23, 24, 25, 26, 27, 28, 29, 30, 31, 32, 33, 34, 35, 36, 37, 38, 39, 40, 41, 42, 43, 44, 45, 46, 47, 48, 49, 50, 51, 52, 53, 54, 55, 56, 57, 58, 59, 60, 61, 62, 63, 64, 65, 66, 67, 68, 69, 70, 71, 72, 73, 74, 75, 76], [76])])
def colonnadelaw02_ValueChecks.B1 : List Nat := [0, 1, 3, 7, 15, 3, 35, 127, 255, 511, 1023, 2047, 4095, 2047, 16383, 32767, 65535, 131071, 262143, 524287, 1048575, 262143, 2359295, 8388607, 16777215, 33554431, 67108863, 134217727, 268435455, 536870911, 134217727, 1207959551, 4294967295, 8589934591, 17179869183, 34359738367, 68719476735, 137438953471, 274877906943, 68719476735, 618475290623, 2199023255551, 4398046511103, 8796093022207, 17592186044415, 35184372088831, 70368744177663, 35184372088831, 175921860444159, 457396837154815, 1125899906842623, 35184372088831, 2286984185774079, 35184372088831, 9042383626829823, 27056782136311807, 72057594037927935, 144115188075855871, 288230376151711743, 576460752303423487, 1152921504606846975, 2305843009213693951, 4611686018427387903, 1152921504606846975, 10376293541461622783, 36893488147419103231, 73786976294838206463, 147573952589676412927, 295147905179352825855, 590295810358705651711, 1180591620717411303423, 2361183241434822606847, 590295810358705651711, 5312662293228350865407, 18889465931478580854783, 37778931862957161709567, 75557863725914323419135, 151115727451828646838271]
theorem colonnadelaw02_ValueChecks.tab1 : rtab .any (opsOf Tryd.f5 1) = colonnadelaw02_ValueChecks.T1 := by kernel_rfl
theorem colonnadelaw02_ValueChecks.bits1 : waitsOk colonnadelaw02_ValueChecks.T1.2 colonnadelaw02_ValueChecks.B1 = true := by kernel_rfl
set_option maxHeartbeats 8000000 in
set_option maxRecDepth 100000 in
theorem colonnadelaw02_ValueChecks.calls (k : Nat) (a0_0 : Int) (a0_1 : Int) (a0_2 : Bool) (a0_3 : Int) (a0_4 : ByteArray) (r : Bool) (w : World) (h : colonnadelaw02_ValueChecks.f k a0_0 a0_1 a0_2 a0_3 a0_4 = some r) (hG : Gl w) :
    Calls Tryd.prog 5 #[.agg #[.int .i64 a0_0, .int .i64 a0_1, .bool a0_2, .int .i64 a0_3, .string a0_4]] w fun e w' => e = .returned (.bool r) ∧ Below w.heap.size w w' := by
  have HG := Aside0.mk hG
  clear hG
  have hu25 := Tryd.underlying25
  have hu23 := Tryd.underlying23
  have HB := Aside0.mk (Below.refl w.heap.size w)
  have H : ((colonnadelaw02_begun.f k).bind fun t250 => (if t250 = true then ((value_CheckType.f a0_0 a0_1).bind fun t251 => ((colonnaderef02_CheckType.f a0_0 a0_1).bind fun t252 => (if t251 = t252 then ((value_Check.f a0_0 a0_1 a0_2 a0_3 a0_4).bind fun t253 => ((colonnaderef02_Check.f a0_0 a0_1 a0_2 a0_3 a0_4).bind fun t254 => (if t253 = t254 then ((value_None.f a0_0 a0_1).bind fun bt255 => ((colonnaderef02_None.f a0_0 a0_1).bind fun bt260 => (if ((bt255.1 == bt260.1 && (bt255.2.1 == bt260.2.1)) && (bt255.2.2.1 == bt260.2.2.1 && (bt255.2.2.2.1 == bt260.2.2.2.1 && (bt255.2.2.2.2.toList == bt260.2.2.2.2.toList)))) = true then ((value_OfBool.f a0_2).bind fun bt265 => ((colonnaderef02_OfBool.f a0_2).bind fun bt270 => (if ((bt265.1 == bt270.1 && (bt265.2.1 == bt270.2.1)) && (bt265.2.2.1 == bt270.2.2.1 && (bt265.2.2.2.1 == bt270.2.2.2.1 && (bt265.2.2.2.2.toList == bt270.2.2.2.2.toList)))) = true then ((value_OfInt.f a0_3).bind fun bt275 => ((colonnaderef02_OfInt.f a0_3).bind fun bt280 => (if ((bt275.1 == bt280.1 && (bt275.2.1 == bt280.2.1)) && (bt275.2.2.1 == bt280.2.2.1 && (bt275.2.2.2.1 == bt280.2.2.2.1 && (bt275.2.2.2.2.toList == bt280.2.2.2.2.toList)))) = true then ((value_OfDec.f a0_3 a0_1).bind fun bt285 => ((colonnaderef02_OfDec.f a0_3 a0_1).bind fun bt290 => (if ((bt285.1 == bt290.1 && (bt285.2.1 == bt290.2.1)) && (bt285.2.2.1 == bt290.2.2.1 && (bt285.2.2.2.1 == bt290.2.2.2.1 && (bt285.2.2.2.2.toList == bt290.2.2.2.2.toList)))) = true then ((value_OfText.f a0_4).bind fun bt295 => ((colonnaderef02_OfText.f a0_4).bind fun bt300 => (if ((bt295.1 == bt300.1 && (bt295.2.1 == bt300.2.1)) && (bt295.2.2.1 == bt300.2.2.1 && (bt295.2.2.2.1 == bt300.2.2.2.1 && (bt295.2.2.2.2.toList == bt300.2.2.2.2.toList)))) = true then ((value_OfDay.f a0_3).bind fun bt305 => ((colonnaderef02_OfDay.f a0_3).bind fun bt310 => (some ((bt305.1 == bt310.1 && (bt305.2.1 == bt310.2.1)) && (bt305.2.2.1 == bt310.2.2.1 && (bt305.2.2.2.1 == bt310.2.2.2.1 && (bt305.2.2.2.2.toList == bt310.2.2.2.2.toList))))))) else (none)))) else (none)))) else (none)))) else (none)))) else (none)))) else (none)))) else (none)))) else (none))) = some r := h
  clear h
  replace H := Option.bind_eq_some_iff.mp H
  obtain ⟨t250, A20, H⟩ := H
  replace H : (if t250 = true then ((value_CheckType.f a0_0 a0_1).bind fun t251 => ((colonnaderef02_CheckType.f a0_0 a0_1).bind fun t252 => (if t251 = t252 then ((value_Check.f a0_0 a0_1 a0_2 a0_3 a0_4).bind fun t253 => ((colonnaderef02_Check.f a0_0 a0_1 a0_2 a0_3 a0_4).bind fun t254 => (if t253 = t254 then ((value_None.f a0_0 a0_1).bind fun bt255 => ((colonnaderef02_None.f a0_0 a0_1).bind fun bt260 => (if ((bt255.1 == bt260.1 && (bt255.2.1 == bt260.2.1)) && (bt255.2.2.1 == bt260.2.2.1 && (bt255.2.2.2.1 == bt260.2.2.2.1 && (bt255.2.2.2.2.toList == bt260.2.2.2.2.toList)))) = true then ((value_OfBool.f a0_2).bind fun bt265 => ((colonnaderef02_OfBool.f a0_2).bind fun bt270 => (if ((bt265.1 == bt270.1 && (bt265.2.1 == bt270.2.1)) && (bt265.2.2.1 == bt270.2.2.1 && (bt265.2.2.2.1 == bt270.2.2.2.1 && (bt265.2.2.2.2.toList == bt270.2.2.2.2.toList)))) = true then ((value_OfInt.f a0_3).bind fun bt275 => ((colonnaderef02_OfInt.f a0_3).bind fun bt280 => (if ((bt275.1 == bt280.1 && (bt275.2.1 == bt280.2.1)) && (bt275.2.2.1 == bt280.2.2.1 && (bt275.2.2.2.1 == bt280.2.2.2.1 && (bt275.2.2.2.2.toList == bt280.2.2.2.2.toList)))) = true then ((value_OfDec.f a0_3 a0_1).bind fun bt285 => ((colonnaderef02_OfDec.f a0_3 a0_1).bind fun bt290 => (if ((bt285.1 == bt290.1 && (bt285.2.1 == bt290.2.1)) && (bt285.2.2.1 == bt290.2.2.1 && (bt285.2.2.2.1 == bt290.2.2.2.1 && (bt285.2.2.2.2.toList == bt290.2.2.2.2.toList)))) = true then ((value_OfText.f a0_4).bind fun bt295 => ((colonnaderef02_OfText.f a0_4).bind fun bt300 => (if ((bt295.1 == bt300.1 && (bt295.2.1 == bt300.2.1)) && (bt295.2.2.1 == bt300.2.2.1 && (bt295.2.2.2.1 == bt300.2.2.2.1 && (bt295.2.2.2.2.toList == bt300.2.2.2.2.toList)))) = true then ((value_OfDay.f a0_3).bind fun bt305 => ((colonnaderef02_OfDay.f a0_3).bind fun bt310 => (some ((bt305.1 == bt310.1 && (bt305.2.1 == bt310.2.1)) && (bt305.2.2.1 == bt310.2.2.1 && (bt305.2.2.2.1 == bt310.2.2.2.1 && (bt305.2.2.2.2.toList == bt310.2.2.2.2.toList))))))) else (none)))) else (none)))) else (none)))) else (none)))) else (none)))) else (none)))) else (none)))) else (none)) = some r := H
  have A2 := Aside0.mk A20
  clear A20
  by_cases c3 : t250 = true
  · subst c3
    have H1 : ((value_CheckType.f a0_0 a0_1).bind fun t251 => ((colonnaderef02_CheckType.f a0_0 a0_1).bind fun t252 => (if t251 = t252 then ((value_Check.f a0_0 a0_1 a0_2 a0_3 a0_4).bind fun t253 => ((colonnaderef02_Check.f a0_0 a0_1 a0_2 a0_3 a0_4).bind fun t254 => (if t253 = t254 then ((value_None.f a0_0 a0_1).bind fun bt255 => ((colonnaderef02_None.f a0_0 a0_1).bind fun bt260 => (if ((bt255.1 == bt260.1 && (bt255.2.1 == bt260.2.1)) && (bt255.2.2.1 == bt260.2.2.1 && (bt255.2.2.2.1 == bt260.2.2.2.1 && (bt255.2.2.2.2.toList == bt260.2.2.2.2.toList)))) = true then ((value_OfBool.f a0_2).bind fun bt265 => ((colonnaderef02_OfBool.f a0_2).bind fun bt270 => (if ((bt265.1 == bt270.1 && (bt265.2.1 == bt270.2.1)) && (bt265.2.2.1 == bt270.2.2.1 && (bt265.2.2.2.1 == bt270.2.2.2.1 && (bt265.2.2.2.2.toList == bt270.2.2.2.2.toList)))) = true then ((value_OfInt.f a0_3).bind fun bt275 => ((colonnaderef02_OfInt.f a0_3).bind fun bt280 => (if ((bt275.1 == bt280.1 && (bt275.2.1 == bt280.2.1)) && (bt275.2.2.1 == bt280.2.2.1 && (bt275.2.2.2.1 == bt280.2.2.2.1 && (bt275.2.2.2.2.toList == bt280.2.2.2.2.toList)))) = true then ((value_OfDec.f a0_3 a0_1).bind fun bt285 => ((colonnaderef02_OfDec.f a0_3 a0_1).bind fun bt290 => (if ((bt285.1 == bt290.1 && (bt285.2.1 == bt290.2.1)) && (bt285.2.2.1 == bt290.2.2.1 && (bt285.2.2.2.1 == bt290.2.2.2.1 && (bt285.2.2.2.2.toList == bt290.2.2.2.2.toList)))) = true then ((value_OfText.f a0_4).bind fun bt295 => ((colonnaderef02_OfText.f a0_4).bind fun bt300 => (if ((bt295.1 == bt300.1 && (bt295.2.1 == bt300.2.1)) && (bt295.2.2.1 == bt300.2.2.1 && (bt295.2.2.2.1 == bt300.2.2.2.1 && (bt295.2.2.2.2.toList == bt300.2.2.2.2.toList)))) = true then ((value_OfDay.f a0_3).bind fun bt305 => ((colonnaderef02_OfDay.f a0_3).bind fun bt310 => (some ((bt305.1 == bt310.1 && (bt305.2.1 == bt310.2.1)) && (bt305.2.2.1 == bt310.2.2.1 && (bt305.2.2.2.1 == bt310.2.2.2.1 && (bt305.2.2.2.2.toList == bt310.2.2.2.2.toList))))))) else (none)))) else (none)))) else (none)))) else (none)))) else (none)))) else (none)))) else (none)))) = some r := by rw [if_pos rfl] at H; exact H
    clear H
    have H := H1
    clear H1
    replace H := Option.bind_eq_some_iff.mp H
    obtain ⟨t251, A40, H⟩ := H
    replace H : ((colonnaderef02_CheckType.f a0_0 a0_1).bind fun t252 => (if t251 = t252 then ((value_Check.f a0_0 a0_1 a0_2 a0_3 a0_4).bind fun t253 => ((colonnaderef02_Check.f a0_0 a0_1 a0_2 a0_3 a0_4).bind fun t254 => (if t253 = t254 then ((value_None.f a0_0 a0_1).bind fun bt255 => ((colonnaderef02_None.f a0_0 a0_1).bind fun bt260 => (if ((bt255.1 == bt260.1 && (bt255.2.1 == bt260.2.1)) && (bt255.2.2.1 == bt260.2.2.1 && (bt255.2.2.2.1 == bt260.2.2.2.1 && (bt255.2.2.2.2.toList == bt260.2.2.2.2.toList)))) = true then ((value_OfBool.f a0_2).bind fun bt265 => ((colonnaderef02_OfBool.f a0_2).bind fun bt270 => (if ((bt265.1 == bt270.1 && (bt265.2.1 == bt270.2.1)) && (bt265.2.2.1 == bt270.2.2.1 && (bt265.2.2.2.1 == bt270.2.2.2.1 && (bt265.2.2.2.2.toList == bt270.2.2.2.2.toList)))) = true then ((value_OfInt.f a0_3).bind fun bt275 => ((colonnaderef02_OfInt.f a0_3).bind fun bt280 => (if ((bt275.1 == bt280.1 && (bt275.2.1 == bt280.2.1)) && (bt275.2.2.1 == bt280.2.2.1 && (bt275.2.2.2.1 == bt280.2.2.2.1 && (bt275.2.2.2.2.toList == bt280.2.2.2.2.toList)))) = true then ((value_OfDec.f a0_3 a0_1).bind fun bt285 => ((colonnaderef02_OfDec.f a0_3 a0_1).bind fun bt290 => (if ((bt285.1 == bt290.1 && (bt285.2.1 == bt290.2.1)) && (bt285.2.2.1 == bt290.2.2.1 && (bt285.2.2.2.1 == bt290.2.2.2.1 && (bt285.2.2.2.2.toList == bt290.2.2.2.2.toList)))) = true then ((value_OfText.f a0_4).bind fun bt295 => ((colonnaderef02_OfText.f a0_4).bind fun bt300 => (if ((bt295.1 == bt300.1 && (bt295.2.1 == bt300.2.1)) && (bt295.2.2.1 == bt300.2.2.1 && (bt295.2.2.2.1 == bt300.2.2.2.1 && (bt295.2.2.2.2.toList == bt300.2.2.2.2.toList)))) = true then ((value_OfDay.f a0_3).bind fun bt305 => ((colonnaderef02_OfDay.f a0_3).bind fun bt310 => (some ((bt305.1 == bt310.1 && (bt305.2.1 == bt310.2.1)) && (bt305.2.2.1 == bt310.2.2.1 && (bt305.2.2.2.1 == bt310.2.2.2.1 && (bt305.2.2.2.2.toList == bt310.2.2.2.2.toList))))))) else (none)))) else (none)))) else (none)))) else (none)))) else (none)))) else (none)))) else (none))) = some r := H
    have A4 := Aside0.mk A40
    clear A40
    replace H := Option.bind_eq_some_iff.mp H
    obtain ⟨t252, A50, H⟩ := H
    replace H : (if t251 = t252 then ((value_Check.f a0_0 a0_1 a0_2 a0_3 a0_4).bind fun t253 => ((colonnaderef02_Check.f a0_0 a0_1 a0_2 a0_3 a0_4).bind fun t254 => (if t253 = t254 then ((value_None.f a0_0 a0_1).bind fun bt255 => ((colonnaderef02_None.f a0_0 a0_1).bind fun bt260 => (if ((bt255.1 == bt260.1 && (bt255.2.1 == bt260.2.1)) && (bt255.2.2.1 == bt260.2.2.1 && (bt255.2.2.2.1 == bt260.2.2.2.1 && (bt255.2.2.2.2.toList == bt260.2.2.2.2.toList)))) = true then ((value_OfBool.f a0_2).bind fun bt265 => ((colonnaderef02_OfBool.f a0_2).bind fun bt270 => (if ((bt265.1 == bt270.1 && (bt265.2.1 == bt270.2.1)) && (bt265.2.2.1 == bt270.2.2.1 && (bt265.2.2.2.1 == bt270.2.2.2.1 && (bt265.2.2.2.2.toList == bt270.2.2.2.2.toList)))) = true then ((value_OfInt.f a0_3).bind fun bt275 => ((colonnaderef02_OfInt.f a0_3).bind fun bt280 => (if ((bt275.1 == bt280.1 && (bt275.2.1 == bt280.2.1)) && (bt275.2.2.1 == bt280.2.2.1 && (bt275.2.2.2.1 == bt280.2.2.2.1 && (bt275.2.2.2.2.toList == bt280.2.2.2.2.toList)))) = true then ((value_OfDec.f a0_3 a0_1).bind fun bt285 => ((colonnaderef02_OfDec.f a0_3 a0_1).bind fun bt290 => (if ((bt285.1 == bt290.1 && (bt285.2.1 == bt290.2.1)) && (bt285.2.2.1 == bt290.2.2.1 && (bt285.2.2.2.1 == bt290.2.2.2.1 && (bt285.2.2.2.2.toList == bt290.2.2.2.2.toList)))) = true then ((value_OfText.f a0_4).bind fun bt295 => ((colonnaderef02_OfText.f a0_4).bind fun bt300 => (if ((bt295.1 == bt300.1 && (bt295.2.1 == bt300.2.1)) && (bt295.2.2.1 == bt300.2.2.1 && (bt295.2.2.2.1 == bt300.2.2.2.1 && (bt295.2.2.2.2.toList == bt300.2.2.2.2.toList)))) = true then ((value_OfDay.f a0_3).bind fun bt305 => ((colonnaderef02_OfDay.f a0_3).bind fun bt310 => (some ((bt305.1 == bt310.1 && (bt305.2.1 == bt310.2.1)) && (bt305.2.2.1 == bt310.2.2.1 && (bt305.2.2.2.1 == bt310.2.2.2.1 && (bt305.2.2.2.2.toList == bt310.2.2.2.2.toList))))))) else (none)))) else (none)))) else (none)))) else (none)))) else (none)))) else (none)))) else (none)) = some r := H
    have A5 := Aside0.mk A50
    clear A50
    by_cases c6 : t251 = t252
    · rw [if_pos c6] at H
      have c6b0 : (t251 == t252) = true := beq_iff_eq.mpr c6
      have c6b1 : (t251 != t252) = false := bne_eq_false_iff_eq.mpr c6
      clear c6
      replace H := Option.bind_eq_some_iff.mp H
      obtain ⟨t253, A70, H⟩ := H
      replace H : ((colonnaderef02_Check.f a0_0 a0_1 a0_2 a0_3 a0_4).bind fun t254 => (if t253 = t254 then ((value_None.f a0_0 a0_1).bind fun bt255 => ((colonnaderef02_None.f a0_0 a0_1).bind fun bt260 => (if ((bt255.1 == bt260.1 && (bt255.2.1 == bt260.2.1)) && (bt255.2.2.1 == bt260.2.2.1 && (bt255.2.2.2.1 == bt260.2.2.2.1 && (bt255.2.2.2.2.toList == bt260.2.2.2.2.toList)))) = true then ((value_OfBool.f a0_2).bind fun bt265 => ((colonnaderef02_OfBool.f a0_2).bind fun bt270 => (if ((bt265.1 == bt270.1 && (bt265.2.1 == bt270.2.1)) && (bt265.2.2.1 == bt270.2.2.1 && (bt265.2.2.2.1 == bt270.2.2.2.1 && (bt265.2.2.2.2.toList == bt270.2.2.2.2.toList)))) = true then ((value_OfInt.f a0_3).bind fun bt275 => ((colonnaderef02_OfInt.f a0_3).bind fun bt280 => (if ((bt275.1 == bt280.1 && (bt275.2.1 == bt280.2.1)) && (bt275.2.2.1 == bt280.2.2.1 && (bt275.2.2.2.1 == bt280.2.2.2.1 && (bt275.2.2.2.2.toList == bt280.2.2.2.2.toList)))) = true then ((value_OfDec.f a0_3 a0_1).bind fun bt285 => ((colonnaderef02_OfDec.f a0_3 a0_1).bind fun bt290 => (if ((bt285.1 == bt290.1 && (bt285.2.1 == bt290.2.1)) && (bt285.2.2.1 == bt290.2.2.1 && (bt285.2.2.2.1 == bt290.2.2.2.1 && (bt285.2.2.2.2.toList == bt290.2.2.2.2.toList)))) = true then ((value_OfText.f a0_4).bind fun bt295 => ((colonnaderef02_OfText.f a0_4).bind fun bt300 => (if ((bt295.1 == bt300.1 && (bt295.2.1 == bt300.2.1)) && (bt295.2.2.1 == bt300.2.2.1 && (bt295.2.2.2.1 == bt300.2.2.2.1 && (bt295.2.2.2.2.toList == bt300.2.2.2.2.toList)))) = true then ((value_OfDay.f a0_3).bind fun bt305 => ((colonnaderef02_OfDay.f a0_3).bind fun bt310 => (some ((bt305.1 == bt310.1 && (bt305.2.1 == bt310.2.1)) && (bt305.2.2.1 == bt310.2.2.1 && (bt305.2.2.2.1 == bt310.2.2.2.1 && (bt305.2.2.2.2.toList == bt310.2.2.2.2.toList))))))) else (none)))) else (none)))) else (none)))) else (none)))) else (none)))) else (none))) = some r := H
      have A7 := Aside0.mk A70
      clear A70
      replace H := Option.bind_eq_some_iff.mp H
      obtain ⟨t254, A80, H⟩ := H
      replace H : (if t253 = t254 then ((value_None.f a0_0 a0_1).bind fun bt255 => ((colonnaderef02_None.f a0_0 a0_1).bind fun bt260 => (if ((bt255.1 == bt260.1 && (bt255.2.1 == bt260.2.1)) && (bt255.2.2.1 == bt260.2.2.1 && (bt255.2.2.2.1 == bt260.2.2.2.1 && (bt255.2.2.2.2.toList == bt260.2.2.2.2.toList)))) = true then ((value_OfBool.f a0_2).bind fun bt265 => ((colonnaderef02_OfBool.f a0_2).bind fun bt270 => (if ((bt265.1 == bt270.1 && (bt265.2.1 == bt270.2.1)) && (bt265.2.2.1 == bt270.2.2.1 && (bt265.2.2.2.1 == bt270.2.2.2.1 && (bt265.2.2.2.2.toList == bt270.2.2.2.2.toList)))) = true then ((value_OfInt.f a0_3).bind fun bt275 => ((colonnaderef02_OfInt.f a0_3).bind fun bt280 => (if ((bt275.1 == bt280.1 && (bt275.2.1 == bt280.2.1)) && (bt275.2.2.1 == bt280.2.2.1 && (bt275.2.2.2.1 == bt280.2.2.2.1 && (bt275.2.2.2.2.toList == bt280.2.2.2.2.toList)))) = true then ((value_OfDec.f a0_3 a0_1).bind fun bt285 => ((colonnaderef02_OfDec.f a0_3 a0_1).bind fun bt290 => (if ((bt285.1 == bt290.1 && (bt285.2.1 == bt290.2.1)) && (bt285.2.2.1 == bt290.2.2.1 && (bt285.2.2.2.1 == bt290.2.2.2.1 && (bt285.2.2.2.2.toList == bt290.2.2.2.2.toList)))) = true then ((value_OfText.f a0_4).bind fun bt295 => ((colonnaderef02_OfText.f a0_4).bind fun bt300 => (if ((bt295.1 == bt300.1 && (bt295.2.1 == bt300.2.1)) && (bt295.2.2.1 == bt300.2.2.1 && (bt295.2.2.2.1 == bt300.2.2.2.1 && (bt295.2.2.2.2.toList == bt300.2.2.2.2.toList)))) = true then ((value_OfDay.f a0_3).bind fun bt305 => ((colonnaderef02_OfDay.f a0_3).bind fun bt310 => (some ((bt305.1 == bt310.1 && (bt305.2.1 == bt310.2.1)) && (bt305.2.2.1 == bt310.2.2.1 && (bt305.2.2.2.1 == bt310.2.2.2.1 && (bt305.2.2.2.2.toList == bt310.2.2.2.2.toList))))))) else (none)))) else (none)))) else (none)))) else (none)))) else (none)))) else (none)) = some r := H
      have A8 := Aside0.mk A80
      clear A80
      by_cases c9 : t253 = t254
      · rw [if_pos c9] at H
        have c9b0 : (t253 == t254) = true := beq_iff_eq.mpr c9
        have c9b1 : (t253 != t254) = false := bne_eq_false_iff_eq.mpr c9
        clear c9
        replace H := Option.bind_eq_some_iff.mp H
        obtain ⟨⟨t255, t256, t257, t258, t259⟩, A100, H⟩ := H
        replace H : ((colonnaderef02_None.f a0_0 a0_1).bind fun bt260 => (if ((t255 == bt260.1 && (t256 == bt260.2.1)) && (t257 == bt260.2.2.1 && (t258 == bt260.2.2.2.1 && (t259.toList == bt260.2.2.2.2.toList)))) = true then ((value_OfBool.f a0_2).bind fun bt265 => ((colonnaderef02_OfBool.f a0_2).bind fun bt270 => (if ((bt265.1 == bt270.1 && (bt265.2.1 == bt270.2.1)) && (bt265.2.2.1 == bt270.2.2.1 && (bt265.2.2.2.1 == bt270.2.2.2.1 && (bt265.2.2.2.2.toList == bt270.2.2.2.2.toList)))) = true then ((value_OfInt.f a0_3).bind fun bt275 => ((colonnaderef02_OfInt.f a0_3).bind fun bt280 => (if ((bt275.1 == bt280.1 && (bt275.2.1 == bt280.2.1)) && (bt275.2.2.1 == bt280.2.2.1 && (bt275.2.2.2.1 == bt280.2.2.2.1 && (bt275.2.2.2.2.toList == bt280.2.2.2.2.toList)))) = true then ((value_OfDec.f a0_3 a0_1).bind fun bt285 => ((colonnaderef02_OfDec.f a0_3 a0_1).bind fun bt290 => (if ((bt285.1 == bt290.1 && (bt285.2.1 == bt290.2.1)) && (bt285.2.2.1 == bt290.2.2.1 && (bt285.2.2.2.1 == bt290.2.2.2.1 && (bt285.2.2.2.2.toList == bt290.2.2.2.2.toList)))) = true then ((value_OfText.f a0_4).bind fun bt295 => ((colonnaderef02_OfText.f a0_4).bind fun bt300 => (if ((bt295.1 == bt300.1 && (bt295.2.1 == bt300.2.1)) && (bt295.2.2.1 == bt300.2.2.1 && (bt295.2.2.2.1 == bt300.2.2.2.1 && (bt295.2.2.2.2.toList == bt300.2.2.2.2.toList)))) = true then ((value_OfDay.f a0_3).bind fun bt305 => ((colonnaderef02_OfDay.f a0_3).bind fun bt310 => (some ((bt305.1 == bt310.1 && (bt305.2.1 == bt310.2.1)) && (bt305.2.2.1 == bt310.2.2.1 && (bt305.2.2.2.1 == bt310.2.2.2.1 && (bt305.2.2.2.2.toList == bt310.2.2.2.2.toList))))))) else (none)))) else (none)))) else (none)))) else (none)))) else (none))) = some r := H
        have A10 := Aside0.mk A100
        clear A100
        replace H := Option.bind_eq_some_iff.mp H
        obtain ⟨⟨t260, t261, t262, t263, t264⟩, A110, H⟩ := H
        replace H : (if ((t255 == t260 && (t256 == t261)) && (t257 == t262 && (t258 == t263 && (t259.toList == t264.toList)))) = true then ((value_OfBool.f a0_2).bind fun bt265 => ((colonnaderef02_OfBool.f a0_2).bind fun bt270 => (if ((bt265.1 == bt270.1 && (bt265.2.1 == bt270.2.1)) && (bt265.2.2.1 == bt270.2.2.1 && (bt265.2.2.2.1 == bt270.2.2.2.1 && (bt265.2.2.2.2.toList == bt270.2.2.2.2.toList)))) = true then ((value_OfInt.f a0_3).bind fun bt275 => ((colonnaderef02_OfInt.f a0_3).bind fun bt280 => (if ((bt275.1 == bt280.1 && (bt275.2.1 == bt280.2.1)) && (bt275.2.2.1 == bt280.2.2.1 && (bt275.2.2.2.1 == bt280.2.2.2.1 && (bt275.2.2.2.2.toList == bt280.2.2.2.2.toList)))) = true then ((value_OfDec.f a0_3 a0_1).bind fun bt285 => ((colonnaderef02_OfDec.f a0_3 a0_1).bind fun bt290 => (if ((bt285.1 == bt290.1 && (bt285.2.1 == bt290.2.1)) && (bt285.2.2.1 == bt290.2.2.1 && (bt285.2.2.2.1 == bt290.2.2.2.1 && (bt285.2.2.2.2.toList == bt290.2.2.2.2.toList)))) = true then ((value_OfText.f a0_4).bind fun bt295 => ((colonnaderef02_OfText.f a0_4).bind fun bt300 => (if ((bt295.1 == bt300.1 && (bt295.2.1 == bt300.2.1)) && (bt295.2.2.1 == bt300.2.2.1 && (bt295.2.2.2.1 == bt300.2.2.2.1 && (bt295.2.2.2.2.toList == bt300.2.2.2.2.toList)))) = true then ((value_OfDay.f a0_3).bind fun bt305 => ((colonnaderef02_OfDay.f a0_3).bind fun bt310 => (some ((bt305.1 == bt310.1 && (bt305.2.1 == bt310.2.1)) && (bt305.2.2.1 == bt310.2.2.1 && (bt305.2.2.2.1 == bt310.2.2.2.1 && (bt305.2.2.2.2.toList == bt310.2.2.2.2.toList))))))) else (none)))) else (none)))) else (none)))) else (none)))) else (none)) = some r := H
        have A11 := Aside0.mk A110
        clear A110
        by_cases c12 : ((t255 == t260 && (t256 == t261)) && (t257 == t262 && (t258 == t263 && (t259.toList == t264.toList)))) = true
        · rw [if_pos c12] at H
          have c12b0 : ((t255 == t260 && (t256 == t261)) && (t257 == t262 && (t258 == t263 && (t259.toList == t264.toList)))) = true := c12
          clear c12
          replace H := Option.bind_eq_some_iff.mp H
          obtain ⟨⟨t265, t266, t267, t268, t269⟩, A130, H⟩ := H
          replace H : ((colonnaderef02_OfBool.f a0_2).bind fun bt270 => (if ((t265 == bt270.1 && (t266 == bt270.2.1)) && (t267 == bt270.2.2.1 && (t268 == bt270.2.2.2.1 && (t269.toList == bt270.2.2.2.2.toList)))) = true then ((value_OfInt.f a0_3).bind fun bt275 => ((colonnaderef02_OfInt.f a0_3).bind fun bt280 => (if ((bt275.1 == bt280.1 && (bt275.2.1 == bt280.2.1)) && (bt275.2.2.1 == bt280.2.2.1 && (bt275.2.2.2.1 == bt280.2.2.2.1 && (bt275.2.2.2.2.toList == bt280.2.2.2.2.toList)))) = true then ((value_OfDec.f a0_3 a0_1).bind fun bt285 => ((colonnaderef02_OfDec.f a0_3 a0_1).bind fun bt290 => (if ((bt285.1 == bt290.1 && (bt285.2.1 == bt290.2.1)) && (bt285.2.2.1 == bt290.2.2.1 && (bt285.2.2.2.1 == bt290.2.2.2.1 && (bt285.2.2.2.2.toList == bt290.2.2.2.2.toList)))) = true then ((value_OfText.f a0_4).bind fun bt295 => ((colonnaderef02_OfText.f a0_4).bind fun bt300 => (if ((bt295.1 == bt300.1 && (bt295.2.1 == bt300.2.1)) && (bt295.2.2.1 == bt300.2.2.1 && (bt295.2.2.2.1 == bt300.2.2.2.1 && (bt295.2.2.2.2.toList == bt300.2.2.2.2.toList)))) = true then ((value_OfDay.f a0_3).bind fun bt305 => ((colonnaderef02_OfDay.f a0_3).bind fun bt310 => (some ((bt305.1 == bt310.1 && (bt305.2.1 == bt310.2.1)) && (bt305.2.2.1 == bt310.2.2.1 && (bt305.2.2.2.1 == bt310.2.2.2.1 && (bt305.2.2.2.2.toList == bt310.2.2.2.2.toList))))))) else (none)))) else (none)))) else (none)))) else (none))) = some r := H
          have A13 := Aside0.mk A130
          clear A130
          replace H := Option.bind_eq_some_iff.mp H
          obtain ⟨⟨t270, t271, t272, t273, t274⟩, A140, H⟩ := H
          replace H : (if ((t265 == t270 && (t266 == t271)) && (t267 == t272 && (t268 == t273 && (t269.toList == t274.toList)))) = true then ((value_OfInt.f a0_3).bind fun bt275 => ((colonnaderef02_OfInt.f a0_3).bind fun bt280 => (if ((bt275.1 == bt280.1 && (bt275.2.1 == bt280.2.1)) && (bt275.2.2.1 == bt280.2.2.1 && (bt275.2.2.2.1 == bt280.2.2.2.1 && (bt275.2.2.2.2.toList == bt280.2.2.2.2.toList)))) = true then ((value_OfDec.f a0_3 a0_1).bind fun bt285 => ((colonnaderef02_OfDec.f a0_3 a0_1).bind fun bt290 => (if ((bt285.1 == bt290.1 && (bt285.2.1 == bt290.2.1)) && (bt285.2.2.1 == bt290.2.2.1 && (bt285.2.2.2.1 == bt290.2.2.2.1 && (bt285.2.2.2.2.toList == bt290.2.2.2.2.toList)))) = true then ((value_OfText.f a0_4).bind fun bt295 => ((colonnaderef02_OfText.f a0_4).bind fun bt300 => (if ((bt295.1 == bt300.1 && (bt295.2.1 == bt300.2.1)) && (bt295.2.2.1 == bt300.2.2.1 && (bt295.2.2.2.1 == bt300.2.2.2.1 && (bt295.2.2.2.2.toList == bt300.2.2.2.2.toList)))) = true then ((value_OfDay.f a0_3).bind fun bt305 => ((colonnaderef02_OfDay.f a0_3).bind fun bt310 => (some ((bt305.1 == bt310.1 && (bt305.2.1 == bt310.2.1)) && (bt305.2.2.1 == bt310.2.2.1 && (bt305.2.2.2.1 == bt310.2.2.2.1 && (bt305.2.2.2.2.toList == bt310.2.2.2.2.toList))))))) else (none)))) else (none)))) else (none)))) else (none)) = some r := H
          have A14 := Aside0.mk A140
          clear A140
          by_cases c15 : ((t265 == t270 && (t266 == t271)) && (t267 == t272 && (t268 == t273 && (t269.toList == t274.toList)))) = true
          · rw [if_pos c15] at H
            have c15b0 : ((t265 == t270 && (t266 == t271)) && (t267 == t272 && (t268 == t273 && (t269.toList == t274.toList)))) = true := c15
            clear c15
            replace H := Option.bind_eq_some_iff.mp H
            obtain ⟨⟨t275, t276, t277, t278, t279⟩, A160, H⟩ := H
            replace H : ((colonnaderef02_OfInt.f a0_3).bind fun bt280 => (if ((t275 == bt280.1 && (t276 == bt280.2.1)) && (t277 == bt280.2.2.1 && (t278 == bt280.2.2.2.1 && (t279.toList == bt280.2.2.2.2.toList)))) = true then ((value_OfDec.f a0_3 a0_1).bind fun bt285 => ((colonnaderef02_OfDec.f a0_3 a0_1).bind fun bt290 => (if ((bt285.1 == bt290.1 && (bt285.2.1 == bt290.2.1)) && (bt285.2.2.1 == bt290.2.2.1 && (bt285.2.2.2.1 == bt290.2.2.2.1 && (bt285.2.2.2.2.toList == bt290.2.2.2.2.toList)))) = true then ((value_OfText.f a0_4).bind fun bt295 => ((colonnaderef02_OfText.f a0_4).bind fun bt300 => (if ((bt295.1 == bt300.1 && (bt295.2.1 == bt300.2.1)) && (bt295.2.2.1 == bt300.2.2.1 && (bt295.2.2.2.1 == bt300.2.2.2.1 && (bt295.2.2.2.2.toList == bt300.2.2.2.2.toList)))) = true then ((value_OfDay.f a0_3).bind fun bt305 => ((colonnaderef02_OfDay.f a0_3).bind fun bt310 => (some ((bt305.1 == bt310.1 && (bt305.2.1 == bt310.2.1)) && (bt305.2.2.1 == bt310.2.2.1 && (bt305.2.2.2.1 == bt310.2.2.2.1 && (bt305.2.2.2.2.toList == bt310.2.2.2.2.toList))))))) else (none)))) else (none)))) else (none))) = some r := H
            have A16 := Aside0.mk A160
            clear A160
            replace H := Option.bind_eq_some_iff.mp H
            obtain ⟨⟨t280, t281, t282, t283, t284⟩, A170, H⟩ := H
            replace H : (if ((t275 == t280 && (t276 == t281)) && (t277 == t282 && (t278 == t283 && (t279.toList == t284.toList)))) = true then ((value_OfDec.f a0_3 a0_1).bind fun bt285 => ((colonnaderef02_OfDec.f a0_3 a0_1).bind fun bt290 => (if ((bt285.1 == bt290.1 && (bt285.2.1 == bt290.2.1)) && (bt285.2.2.1 == bt290.2.2.1 && (bt285.2.2.2.1 == bt290.2.2.2.1 && (bt285.2.2.2.2.toList == bt290.2.2.2.2.toList)))) = true then ((value_OfText.f a0_4).bind fun bt295 => ((colonnaderef02_OfText.f a0_4).bind fun bt300 => (if ((bt295.1 == bt300.1 && (bt295.2.1 == bt300.2.1)) && (bt295.2.2.1 == bt300.2.2.1 && (bt295.2.2.2.1 == bt300.2.2.2.1 && (bt295.2.2.2.2.toList == bt300.2.2.2.2.toList)))) = true then ((value_OfDay.f a0_3).bind fun bt305 => ((colonnaderef02_OfDay.f a0_3).bind fun bt310 => (some ((bt305.1 == bt310.1 && (bt305.2.1 == bt310.2.1)) && (bt305.2.2.1 == bt310.2.2.1 && (bt305.2.2.2.1 == bt310.2.2.2.1 && (bt305.2.2.2.2.toList == bt310.2.2.2.2.toList))))))) else (none)))) else (none)))) else (none)) = some r := H
            have A17 := Aside0.mk A170
            clear A170
            by_cases c18 : ((t275 == t280 && (t276 == t281)) && (t277 == t282 && (t278 == t283 && (t279.toList == t284.toList)))) = true
            · rw [if_pos c18] at H
              have c18b0 : ((t275 == t280 && (t276 == t281)) && (t277 == t282 && (t278 == t283 && (t279.toList == t284.toList)))) = true := c18
              clear c18
              replace H := Option.bind_eq_some_iff.mp H
              obtain ⟨⟨t285, t286, t287, t288, t289⟩, A190, H⟩ := H
              replace H : ((colonnaderef02_OfDec.f a0_3 a0_1).bind fun bt290 => (if ((t285 == bt290.1 && (t286 == bt290.2.1)) && (t287 == bt290.2.2.1 && (t288 == bt290.2.2.2.1 && (t289.toList == bt290.2.2.2.2.toList)))) = true then ((value_OfText.f a0_4).bind fun bt295 => ((colonnaderef02_OfText.f a0_4).bind fun bt300 => (if ((bt295.1 == bt300.1 && (bt295.2.1 == bt300.2.1)) && (bt295.2.2.1 == bt300.2.2.1 && (bt295.2.2.2.1 == bt300.2.2.2.1 && (bt295.2.2.2.2.toList == bt300.2.2.2.2.toList)))) = true then ((value_OfDay.f a0_3).bind fun bt305 => ((colonnaderef02_OfDay.f a0_3).bind fun bt310 => (some ((bt305.1 == bt310.1 && (bt305.2.1 == bt310.2.1)) && (bt305.2.2.1 == bt310.2.2.1 && (bt305.2.2.2.1 == bt310.2.2.2.1 && (bt305.2.2.2.2.toList == bt310.2.2.2.2.toList))))))) else (none)))) else (none))) = some r := H
              have A19 := Aside0.mk A190
              clear A190
              replace H := Option.bind_eq_some_iff.mp H
              obtain ⟨⟨t290, t291, t292, t293, t294⟩, A200, H⟩ := H
              replace H : (if ((t285 == t290 && (t286 == t291)) && (t287 == t292 && (t288 == t293 && (t289.toList == t294.toList)))) = true then ((value_OfText.f a0_4).bind fun bt295 => ((colonnaderef02_OfText.f a0_4).bind fun bt300 => (if ((bt295.1 == bt300.1 && (bt295.2.1 == bt300.2.1)) && (bt295.2.2.1 == bt300.2.2.1 && (bt295.2.2.2.1 == bt300.2.2.2.1 && (bt295.2.2.2.2.toList == bt300.2.2.2.2.toList)))) = true then ((value_OfDay.f a0_3).bind fun bt305 => ((colonnaderef02_OfDay.f a0_3).bind fun bt310 => (some ((bt305.1 == bt310.1 && (bt305.2.1 == bt310.2.1)) && (bt305.2.2.1 == bt310.2.2.1 && (bt305.2.2.2.1 == bt310.2.2.2.1 && (bt305.2.2.2.2.toList == bt310.2.2.2.2.toList))))))) else (none)))) else (none)) = some r := H
              have A20 := Aside0.mk A200
              clear A200
              by_cases c21 : ((t285 == t290 && (t286 == t291)) && (t287 == t292 && (t288 == t293 && (t289.toList == t294.toList)))) = true
              · rw [if_pos c21] at H
                have c21b0 : ((t285 == t290 && (t286 == t291)) && (t287 == t292 && (t288 == t293 && (t289.toList == t294.toList)))) = true := c21
                clear c21
                replace H := Option.bind_eq_some_iff.mp H
                obtain ⟨⟨t295, t296, t297, t298, t299⟩, A220, H⟩ := H
                replace H : ((colonnaderef02_OfText.f a0_4).bind fun bt300 => (if ((t295 == bt300.1 && (t296 == bt300.2.1)) && (t297 == bt300.2.2.1 && (t298 == bt300.2.2.2.1 && (t299.toList == bt300.2.2.2.2.toList)))) = true then ((value_OfDay.f a0_3).bind fun bt305 => ((colonnaderef02_OfDay.f a0_3).bind fun bt310 => (some ((bt305.1 == bt310.1 && (bt305.2.1 == bt310.2.1)) && (bt305.2.2.1 == bt310.2.2.1 && (bt305.2.2.2.1 == bt310.2.2.2.1 && (bt305.2.2.2.2.toList == bt310.2.2.2.2.toList))))))) else (none))) = some r := H
                have A22 := Aside0.mk A220
                clear A220
                replace H := Option.bind_eq_some_iff.mp H
                obtain ⟨⟨t300, t301, t302, t303, t304⟩, A230, H⟩ := H
                replace H : (if ((t295 == t300 && (t296 == t301)) && (t297 == t302 && (t298 == t303 && (t299.toList == t304.toList)))) = true then ((value_OfDay.f a0_3).bind fun bt305 => ((colonnaderef02_OfDay.f a0_3).bind fun bt310 => (some ((bt305.1 == bt310.1 && (bt305.2.1 == bt310.2.1)) && (bt305.2.2.1 == bt310.2.2.1 && (bt305.2.2.2.1 == bt310.2.2.2.1 && (bt305.2.2.2.2.toList == bt310.2.2.2.2.toList))))))) else (none)) = some r := H
                have A23 := Aside0.mk A230
                clear A230
                by_cases c24 : ((t295 == t300 && (t296 == t301)) && (t297 == t302 && (t298 == t303 && (t299.toList == t304.toList)))) = true
                · rw [if_pos c24] at H
                  have c24b0 : ((t295 == t300 && (t296 == t301)) && (t297 == t302 && (t298 == t303 && (t299.toList == t304.toList)))) = true := c24
                  clear c24
                  replace H := Option.bind_eq_some_iff.mp H
                  obtain ⟨⟨t305, t306, t307, t308, t309⟩, A250, H⟩ := H
                  replace H : ((colonnaderef02_OfDay.f a0_3).bind fun bt310 => (some ((t305 == bt310.1 && (t306 == bt310.2.1)) && (t307 == bt310.2.2.1 && (t308 == bt310.2.2.2.1 && (t309.toList == bt310.2.2.2.2.toList)))))) = some r := H
                  have A25 := Aside0.mk A250
                  clear A250
                  replace H := Option.bind_eq_some_iff.mp H
                  obtain ⟨⟨t310, t311, t312, t313, t314⟩, A260, H⟩ := H
                  replace H : (some ((t305 == t310 && (t306 == t311)) && (t307 == t312 && (t308 == t313 && (t309.toList == t314.toList))))) = some r := H
                  have A26 := Aside0.mk A260
                  clear A260
                  obtain rfl := Option.some.inj H
                  go_enter Tryd.func5, Tryd.ntmps5
                  try go_wp2_with (first | ((with_reducible refine gate_dst (N := 1) rfl ?_); refine box_event ?hg (N := 1) ?hd (cs := #[.int .i64 a0_0, .int .i64 a0_1, .bool a0_2, .int .i64 a0_3, .string a0_4]) (t := 25) ?hr ?_; (case hd => rfl); (case hg => rfl); (case hr => first | (go_simp; done) | (go_simp; rfl)); intro gb249 hg w27 hbox hb; have n0_ := Aside0.mk (below_step (by repeat (first | (with_reducible first | exact HB.out | apply below_alloc | apply pw_below_drewN | apply below_drew1) | exact HB.out)) hb); have n1_ := Aside0.mk (hbox); have n2_ := Aside0.mk ((by rw [hg]; exact (below_size (by repeat (first | (with_reducible first | exact HB.out | apply below_alloc | apply pw_below_drewN | apply below_drew1) | exact HB.out))) : w.heap.size ≤ gb249)); have n3_ := Aside0.mk ((by rw [hg]; exact (below_size (by repeat (first | (with_reducible first | exact HB.out | apply below_alloc | apply pw_below_drewN | apply below_drew1) | exact HB.out))) : w.heap.size ≤ gb249)); clear HB; have HB := n0_; have BK249 := n1_; have GW249 := n2_; have GE249 := n3_; clear n0_ n1_ n2_ n3_; clear hb hbox hg))
                  have n0_ := Aside0.mk (blk_drew BK249.out)
                  have n1_ := Aside0.mk (below_drew1 HB.out)
                  clear BK249
                  clear HB
                  have BK249 := n0_
                  have HB := n1_
                  clear n0_ n1_
                  refine start_ (n := 78) (S := fun w' => w'.cell? ⟨gb249, 0, none⟩ = some (.int .i64 a0_0) ∧ w'.cell? ⟨gb249, 1, none⟩ = some (.int .i64 a0_1) ∧ w'.cell? ⟨gb249, 2, none⟩ = some (.bool a0_2) ∧ w'.cell? ⟨gb249, 3, none⟩ = some (.int .i64 a0_3) ∧ w'.cell? ⟨gb249, 4, none⟩ = some (.string a0_4)) (ds := []) #[false, false, false, false, false, false, false, false, false, false, false, false, false, false, false, false, false, false, false, false, false, false, false, false, false, false, false, false, false, false, false, false, false, false, false, false, false, false, false, false, false, false, false, false, false, false, false, false, false, false, false, false, false, false, false, false, false, false, false, false, false, false, false, false, false, false, false, false, false, false, false, false, false, false, false, false, false, false] (by kernel_rfl) rfl rfl ⟨(blk_cell BK249.out 0).trans rfl, (blk_cell BK249.out 1).trans rfl, (blk_cell BK249.out 2).trans rfl, (blk_cell BK249.out 3).trans rfl, (blk_cell BK249.out 4).trans rfl⟩ (fun hHeld => ?_); refine with_tabW colonnadelaw02_ValueChecks.tab1 colonnadelaw02_ValueChecks.bits1 (fun HT_ HW_ => ?_)
                  generalize w27.drew = w28 at BK249 HB hHeld ⊢
                  refine one_ (i := 0) (N := some 3) #[true, false, false, false, false, false, false, false, false, false, false, false, false, false, false, false, false, false, false, false, false, false, false, false, false, false, false, false, false, false, false, false, false, false, false, false, false, false, false, false, false, false, false, false, false, false, false, false, false, false, false, false, false, false, false, false, false, false, false, false, false, false, false, false, false, false, false, false, false, false, false, false, false, false, false, false, false, false] rfl rfl (one_of HT_.out (by kernel_rfl)) (by decide) (fun K hK => ?_)
                  refine goes_ Tryd.func9 (by kernel_rfl) rfl #[] (by rfl) rfl rfl (by (try simp only [List.map_toArray, List.map_cons, List.map_nil]); first | done | rfl | (simp only [List.length_drop, List.length_take]; rfl)) ?_
                  with_reducible refine (colonnadelaw02_begun.calls k  true _ A2.out (Gl.of HG.out (by repeat (first | exact HB.out | apply below_alloc | apply pw_below_drewN | apply below_drew1 | refine below_set ?_ GE249.out)))).mono ?_
                  rintro e w29 ⟨rfl, hb⟩
                  refine ⟨_, rfl, ?_⟩
                  have n0_ := Aside0.mk (blk_below (g := gb249) (o := .cells #[.int .i64 a0_0, .int .i64 a0_1, .bool a0_2, .int .i64 a0_3, .string a0_4] 25 (0, 0)) (by (with_reducible repeat (first | refine blk_drewN ?_ _ | refine blk_drew ?_ | refine blk_alloc ?_ _)); exact BK249.out) hb)
                  have n1_ := Aside0.mk (below_step (by repeat (first | (with_reducible first | exact HB.out | apply below_alloc | apply pw_below_drewN | apply below_drew1 | refine below_set ?_ GE249.out) | exact HB.out)) hb)
                  clear BK249
                  clear HB
                  have BK249 := n0_
                  have HB := n1_
                  clear n0_ n1_
                  (try clear hb)
                  (try clear hb2)
                  (try clear hk)
                  (try clear hi)
                  refine hK.out _ _ ⟨(blk_cell BK249.out 0).trans rfl, (blk_cell BK249.out 1).trans rfl, (blk_cell BK249.out 2).trans rfl, (blk_cell BK249.out 3).trans rfl, (blk_cell BK249.out 4).trans rfl⟩ (fun hHeld => ?_)
                  clear hK K
                  refine norm_ (a' := ?_) ?_ ?_
                  rotate_left
                  · show Act.put _ (some 3) _ = _
                    simp only [Act.put, List.setIfInBounds_toArray, List.set_cons_zero, List.set_cons_succ, i64_w, i32_w]
                    rfl
                  refine pure_ (i := 1) (N := some 4) (v := ?_) (a' := ?_) #[true, true, false, false, false, false, false, false, false, false, false, false, false, false, false, false, false, false, false, false, false, false, false, false, false, false, false, false, false, false, false, false, false, false, false, false, false, false, false, false, false, false, false, false, false, false, false, false, false, false, false, false, false, false, false, false, false, false, false, false, false, false, false, false, false, false, false, false, false, false, false, false, false, false, false, false, false, false] rfl rfl (any_of HT_.out (by kernel_rfl)) (fun _ _ _ h => h) (Or.inl ⟨by rfl, ?_⟩) ?_ ?_
                  rotate_left
                  · intro w'
                    go_simp
                    with_reducible rfl
                  rotate_left
                  · simp only [Act.put, List.setIfInBounds_toArray, List.set_cons_zero, List.set_cons_succ, i64_w, i32_w]
                    rfl
                  refine pure_ (i := 2) (N := some 5) (v := ?_) (a' := ?_) #[true, true, true, false, false, false, false, false, false, false, false, false, false, false, false, false, false, false, false, false, false, false, false, false, false, false, false, false, false, false, false, false, false, false, false, false, false, false, false, false, false, false, false, false, false, false, false, false, false, false, false, false, false, false, false, false, false, false, false, false, false, false, false, false, false, false, false, false, false, false, false, false, false, false, false, false, false, false] rfl rfl (any_of HT_.out (by kernel_rfl)) (fun _ _ _ h => h) (Or.inl ⟨by rfl, ?_⟩) ?_ ?_
                  rotate_left
                  · intro w'
                    go_simp
                    with_reducible rfl
                  rotate_left
                  · simp only [Act.put, List.setIfInBounds_toArray, List.set_cons_zero, List.set_cons_succ, i64_w, i32_w]
                    rfl
                  refine pure_ (i := 5) (N := some 8) (v := ?_) (a' := ?_) #[true, true, true, false, false, true, false, false, false, false, false, false, false, false, false, false, false, false, false, false, false, false, false, false, false, false, false, false, false, false, false, false, false, false, false, false, false, false, false, false, false, false, false, false, false, false, false, false, false, false, false, false, false, false, false, false, false, false, false, false, false, false, false, false, false, false, false, false, false, false, false, false, false, false, false, false, false, false] rfl rfl (any_of HT_.out (by kernel_rfl)) (fun _ _ _ h => h) (Or.inl ⟨by rfl, ?_⟩) ?_ ?_
                  rotate_left
                  · intro w'
                    go_simp
                    with_reducible rfl
                  rotate_left
                  · simp only [Act.put, List.setIfInBounds_toArray, List.set_cons_zero, List.set_cons_succ, i64_w, i32_w]
                    rfl
                  refine take_ (i := 3) (N := some 6) (v := ?_) (a' := ?_) #[true, true, true, true, false, true, false, false, false, false, false, false, false, false, false, false, false, false, false, false, false, false, false, false, false, false, false, false, false, false, false, false, false, false, false, false, false, false, false, false, false, false, false, false, false, false, false, false, false, false, false, false, false, false, false, false, false, false, false, false, false, false, false, false, false, false, false, false, false, false, false, false, false, false, false, false, false, false] rfl rfl (take_ofW HT_.out HW_.out (by kernel_rfl)) (fun _ _ _ h => h) (Or.inl ⟨by rfl, ?_⟩) hHeld ?_ ?_
                  rotate_left
                  · rintro w' ⟨s0, s1, s2, s3, s4⟩
                    go_simp
                    with_reducible rfl
                  rotate_left
                  · simp only [Act.put, List.setIfInBounds_toArray, List.set_cons_zero, List.set_cons_succ, i64_w, i32_w]
                    rfl
                  refine take_ (i := 6) (N := some 9) (v := ?_) (a' := ?_) #[true, true, true, true, false, true, true, false, false, false, false, false, false, false, false, false, false, false, false, false, false, false, false, false, false, false, false, false, false, false, false, false, false, false, false, false, false, false, false, false, false, false, false, false, false, false, false, false, false, false, false, false, false, false, false, false, false, false, false, false, false, false, false, false, false, false, false, false, false, false, false, false, false, false, false, false, false, false] rfl rfl (take_ofW HT_.out HW_.out (by kernel_rfl)) (fun _ _ _ h => h) (Or.inl ⟨by rfl, ?_⟩) hHeld ?_ ?_
                  rotate_left
                  · rintro w' ⟨s0, s1, s2, s3, s4⟩
                    go_simp
                    with_reducible rfl
                  rotate_left
                  · simp only [Act.put, List.setIfInBounds_toArray, List.set_cons_zero, List.set_cons_succ, i64_w, i32_w]
                    rfl
                  refine one_ (i := 4) (N := some 7) #[true, true, true, true, true, true, true, false, false, false, false, false, false, false, false, false, false, false, false, false, false, false, false, false, false, false, false, false, false, false, false, false, false, false, false, false, false, false, false, false, false, false, false, false, false, false, false, false, false, false, false, false, false, false, false, false, false, false, false, false, false, false, false, false, false, false, false, false, false, false, false, false, false, false, false, false, false, false] rfl rfl (one_of HT_.out (by kernel_rfl)) (by decide) (fun K hK => ?_)
                  refine goes_ Tryd.func18 (by kernel_rfl) rfl #[.agg #[.int .i64 a0_0, .int .i64 a0_1]] (by rfl) rfl rfl (by (try simp only [List.map_toArray, List.map_cons, List.map_nil]); first | done | rfl | (simp only [List.length_drop, List.length_take]; rfl)) ?_
                  with_reducible refine (value_CheckType.calls a0_0 a0_1 t251 _ A4.out).mono ?_
                  rintro e w30 ⟨rfl, hb⟩
                  refine ⟨_, rfl, ?_⟩
                  have n0_ := Aside0.mk (blk_below (g := gb249) (o := .cells #[.int .i64 a0_0, .int .i64 a0_1, .bool a0_2, .int .i64 a0_3, .string a0_4] 25 (0, 0)) (by (with_reducible repeat (first | refine blk_drewN ?_ _ | refine blk_drew ?_ | refine blk_alloc ?_ _)); exact BK249.out) hb)
                  have n1_ := Aside0.mk (below_step (by repeat (first | (with_reducible first | exact HB.out | apply below_alloc | apply pw_below_drewN | apply below_drew1 | refine below_set ?_ GE249.out) | exact HB.out)) hb)
                  clear BK249
                  clear HB
                  have BK249 := n0_
                  have HB := n1_
                  clear n0_ n1_
                  (try clear hb)
                  (try clear hb2)
                  (try clear hk)
                  (try clear hi)
                  refine hK.out _ _ ⟨(blk_cell BK249.out 0).trans rfl, (blk_cell BK249.out 1).trans rfl, (blk_cell BK249.out 2).trans rfl, (blk_cell BK249.out 3).trans rfl, (blk_cell BK249.out 4).trans rfl⟩ (fun hHeld => ?_)
                  clear hK K
                  refine norm_ (a' := ?_) ?_ ?_
                  rotate_left
                  · show Act.put _ (some 7) _ = _
                    simp only [Act.put, List.setIfInBounds_toArray, List.set_cons_zero, List.set_cons_succ, i64_w, i32_w]
                    rfl
                  refine one_ (i := 7) (N := some 10) #[true, true, true, true, true, true, true, true, false, false, false, false, false, false, false, false, false, false, false, false, false, false, false, false, false, false, false, false, false, false, false, false, false, false, false, false, false, false, false, false, false, false, false, false, false, false, false, false, false, false, false, false, false, false, false, false, false, false, false, false, false, false, false, false, false, false, false, false, false, false, false, false, false, false, false, false, false, false] rfl rfl (one_of HT_.out (by kernel_rfl)) (by decide) (fun K hK => ?_)
                  refine goes_ Tryd.func19 (by kernel_rfl) rfl #[.agg #[.int .i64 a0_0, .int .i64 a0_1]] (by rfl) rfl rfl (by (try simp only [List.map_toArray, List.map_cons, List.map_nil]); first | done | rfl | (simp only [List.length_drop, List.length_take]; rfl)) ?_
                  with_reducible refine (colonnaderef02_CheckType.calls a0_0 a0_1 t252 _ A5.out).mono ?_
                  rintro e w31 ⟨rfl, hb⟩
                  refine ⟨_, rfl, ?_⟩
                  have n0_ := Aside0.mk (blk_below (g := gb249) (o := .cells #[.int .i64 a0_0, .int .i64 a0_1, .bool a0_2, .int .i64 a0_3, .string a0_4] 25 (0, 0)) (by (with_reducible repeat (first | refine blk_drewN ?_ _ | refine blk_drew ?_ | refine blk_alloc ?_ _)); exact BK249.out) hb)
                  have n1_ := Aside0.mk (below_step (by repeat (first | (with_reducible first | exact HB.out | apply below_alloc | apply pw_below_drewN | apply below_drew1 | refine below_set ?_ GE249.out) | exact HB.out)) hb)
                  clear BK249
                  clear HB
                  have BK249 := n0_
                  have HB := n1_
                  clear n0_ n1_
                  (try clear hb)
                  (try clear hb2)
                  (try clear hk)
                  (try clear hi)
                  refine hK.out _ _ ⟨(blk_cell BK249.out 0).trans rfl, (blk_cell BK249.out 1).trans rfl, (blk_cell BK249.out 2).trans rfl, (blk_cell BK249.out 3).trans rfl, (blk_cell BK249.out 4).trans rfl⟩ (fun hHeld => ?_)
                  clear hK K
                  refine norm_ (a' := ?_) ?_ ?_
                  rotate_left
                  · show Act.put _ (some 10) _ = _
                    simp only [Act.put, List.setIfInBounds_toArray, List.set_cons_zero, List.set_cons_succ, i64_w, i32_w]
                    rfl
                  refine pure_ (i := 8) (N := some 11) (v := ?_) (a' := ?_) #[true, true, true, true, true, true, true, true, true, false, false, false, false, false, false, false, false, false, false, false, false, false, false, false, false, false, false, false, false, false, false, false, false, false, false, false, false, false, false, false, false, false, false, false, false, false, false, false, false, false, false, false, false, false, false, false, false, false, false, false, false, false, false, false, false, false, false, false, false, false, false, false, false, false, false, false, false, false] rfl rfl (any_of HT_.out (by kernel_rfl)) (fun _ _ _ h => h) (Or.inl ⟨by rfl, ?_⟩) ?_ ?_
                  rotate_left
                  · intro w'
                    go_simp
                    with_reducible rfl
                  rotate_left
                  · simp only [Act.put, List.setIfInBounds_toArray, List.set_cons_zero, List.set_cons_succ, i64_w, i32_w]
                    rfl
                  refine pure_ (i := 9) (N := some 12) (v := ?_) (a' := ?_) #[true, true, true, true, true, true, true, true, true, true, false, false, false, false, false, false, false, false, false, false, false, false, false, false, false, false, false, false, false, false, false, false, false, false, false, false, false, false, false, false, false, false, false, false, false, false, false, false, false, false, false, false, false, false, false, false, false, false, false, false, false, false, false, false, false, false, false, false, false, false, false, false, false, false, false, false, false, false] rfl rfl (any_of HT_.out (by kernel_rfl)) (fun _ _ _ h => h) (Or.inl ⟨by rfl, ?_⟩) ?_ ?_
                  rotate_left
                  · intro w'
                    go_simp
                    with_reducible rfl
                  rotate_left
                  · simp only [Act.put, List.setIfInBounds_toArray, List.set_cons_zero, List.set_cons_succ, i64_w, i32_w]
                    rfl
                  refine pure_ (i := 10) (N := some 13) (v := ?_) (a' := ?_) #[true, true, true, true, true, true, true, true, true, true, true, false, false, false, false, false, false, false, false, false, false, false, false, false, false, false, false, false, false, false, false, false, false, false, false, false, false, false, false, false, false, false, false, false, false, false, false, false, false, false, false, false, false, false, false, false, false, false, false, false, false, false, false, false, false, false, false, false, false, false, false, false, false, false, false, false, false, false] rfl rfl (any_of HT_.out (by kernel_rfl)) (fun _ _ _ h => h) (Or.inl ⟨by rfl, ?_⟩) ?_ ?_
                  rotate_left
                  · intro w'
                    go_simp
                    with_reducible rfl
                  rotate_left
                  · simp only [Act.put, List.setIfInBounds_toArray, List.set_cons_zero, List.set_cons_succ, i64_w, i32_w]
                    rfl
                  refine take_ (i := 11) (N := some 14) (v := ?_) (a' := ?_) #[true, true, true, true, true, true, true, true, true, true, true, true, false, false, false, false, false, false, false, false, false, false, false, false, false, false, false, false, false, false, false, false, false, false, false, false, false, false, false, false, false, false, false, false, false, false, false, false, false, false, false, false, false, false, false, false, false, false, false, false, false, false, false, false, false, false, false, false, false, false, false, false, false, false, false, false, false, false] rfl rfl (take_ofW HT_.out HW_.out (by kernel_rfl)) (fun _ _ _ h => h) (Or.inl ⟨by rfl, ?_⟩) hHeld ?_ ?_
                  rotate_left
                  · rintro w' ⟨s0, s1, s2, s3, s4⟩
                    go_simp
                    with_reducible rfl
                  rotate_left
                  · simp only [Act.put, List.setIfInBounds_toArray, List.set_cons_zero, List.set_cons_succ, i64_w, i32_w]
                    rfl
                  refine take_ (i := 13) (N := some 16) (v := ?_) (a' := ?_) #[true, true, true, true, true, true, true, true, true, true, true, true, false, true, false, false, false, false, false, false, false, false, false, false, false, false, false, false, false, false, false, false, false, false, false, false, false, false, false, false, false, false, false, false, false, false, false, false, false, false, false, false, false, false, false, false, false, false, false, false, false, false, false, false, false, false, false, false, false, false, false, false, false, false, false, false, false, false] rfl rfl (take_ofW HT_.out HW_.out (by kernel_rfl)) (fun _ _ _ h => h) (Or.inl ⟨by rfl, ?_⟩) hHeld ?_ ?_
                  rotate_left
                  · rintro w' ⟨s0, s1, s2, s3, s4⟩
                    go_simp
                    with_reducible rfl
                  rotate_left
                  · simp only [Act.put, List.setIfInBounds_toArray, List.set_cons_zero, List.set_cons_succ, i64_w, i32_w]
                    rfl
                  refine one_ (i := 12) (N := some 15) #[true, true, true, true, true, true, true, true, true, true, true, true, true, true, false, false, false, false, false, false, false, false, false, false, false, false, false, false, false, false, false, false, false, false, false, false, false, false, false, false, false, false, false, false, false, false, false, false, false, false, false, false, false, false, false, false, false, false, false, false, false, false, false, false, false, false, false, false, false, false, false, false, false, false, false, false, false, false] rfl rfl (one_of HT_.out (by kernel_rfl)) (by decide) (fun K hK => ?_)
                  refine goes_ Tryd.func20 (by kernel_rfl) rfl #[.agg #[.int .i64 a0_0, .int .i64 a0_1, .bool a0_2, .int .i64 a0_3, .string a0_4]] (by rfl) rfl rfl (by (try simp only [List.map_toArray, List.map_cons, List.map_nil]); first | done | rfl | (simp only [List.length_drop, List.length_take]; rfl)) ?_
                  with_reducible refine (value_Check.calls a0_0 a0_1 a0_2 a0_3 a0_4 t253 _ A7.out).mono ?_
                  rintro e w32 ⟨rfl, hb⟩
                  refine ⟨_, rfl, ?_⟩
                  have n0_ := Aside0.mk (blk_below (g := gb249) (o := .cells #[.int .i64 a0_0, .int .i64 a0_1, .bool a0_2, .int .i64 a0_3, .string a0_4] 25 (0, 0)) (by (with_reducible repeat (first | refine blk_drewN ?_ _ | refine blk_drew ?_ | refine blk_alloc ?_ _)); exact BK249.out) hb)
                  have n1_ := Aside0.mk (below_step (by repeat (first | (with_reducible first | exact HB.out | apply below_alloc | apply pw_below_drewN | apply below_drew1 | refine below_set ?_ GE249.out) | exact HB.out)) hb)
                  clear BK249
                  clear HB
                  have BK249 := n0_
                  have HB := n1_
                  clear n0_ n1_
                  (try clear hb)
                  (try clear hb2)
                  (try clear hk)
                  (try clear hi)
                  refine hK.out _ _ ⟨(blk_cell BK249.out 0).trans rfl, (blk_cell BK249.out 1).trans rfl, (blk_cell BK249.out 2).trans rfl, (blk_cell BK249.out 3).trans rfl, (blk_cell BK249.out 4).trans rfl⟩ (fun hHeld => ?_)
                  clear hK K
                  refine norm_ (a' := ?_) ?_ ?_
                  rotate_left
                  · show Act.put _ (some 15) _ = _
                    simp only [Act.put, List.setIfInBounds_toArray, List.set_cons_zero, List.set_cons_succ, i64_w, i32_w]
                    rfl
                  refine one_ (i := 14) (N := some 17) #[true, true, true, true, true, true, true, true, true, true, true, true, true, true, true, false, false, false, false, false, false, false, false, false, false, false, false, false, false, false, false, false, false, false, false, false, false, false, false, false, false, false, false, false, false, false, false, false, false, false, false, false, false, false, false, false, false, false, false, false, false, false, false, false, false, false, false, false, false, false, false, false, false, false, false, false, false, false] rfl rfl (one_of HT_.out (by kernel_rfl)) (by decide) (fun K hK => ?_)
                  refine goes_ Tryd.func21 (by kernel_rfl) rfl #[.agg #[.int .i64 a0_0, .int .i64 a0_1, .bool a0_2, .int .i64 a0_3, .string a0_4]] (by rfl) rfl rfl (by (try simp only [List.map_toArray, List.map_cons, List.map_nil]); first | done | rfl | (simp only [List.length_drop, List.length_take]; rfl)) ?_
                  with_reducible refine (colonnaderef02_Check.calls a0_0 a0_1 a0_2 a0_3 a0_4 t254 _ A8.out).mono ?_
                  rintro e w33 ⟨rfl, hb⟩
                  refine ⟨_, rfl, ?_⟩
                  have n0_ := Aside0.mk (blk_below (g := gb249) (o := .cells #[.int .i64 a0_0, .int .i64 a0_1, .bool a0_2, .int .i64 a0_3, .string a0_4] 25 (0, 0)) (by (with_reducible repeat (first | refine blk_drewN ?_ _ | refine blk_drew ?_ | refine blk_alloc ?_ _)); exact BK249.out) hb)
                  have n1_ := Aside0.mk (below_step (by repeat (first | (with_reducible first | exact HB.out | apply below_alloc | apply pw_below_drewN | apply below_drew1 | refine below_set ?_ GE249.out) | exact HB.out)) hb)
                  clear BK249
                  clear HB
                  have BK249 := n0_
                  have HB := n1_
                  clear n0_ n1_
                  (try clear hb)
                  (try clear hb2)
                  (try clear hk)
                  (try clear hi)
                  refine hK.out _ _ ⟨(blk_cell BK249.out 0).trans rfl, (blk_cell BK249.out 1).trans rfl, (blk_cell BK249.out 2).trans rfl, (blk_cell BK249.out 3).trans rfl, (blk_cell BK249.out 4).trans rfl⟩ (fun hHeld => ?_)
                  clear hK K
                  refine norm_ (a' := ?_) ?_ ?_
                  rotate_left
                  · show Act.put _ (some 17) _ = _
                    simp only [Act.put, List.setIfInBounds_toArray, List.set_cons_zero, List.set_cons_succ, i64_w, i32_w]
                    rfl
                  refine pure_ (i := 15) (N := some 18) (v := ?_) (a' := ?_) #[true, true, true, true, true, true, true, true, true, true, true, true, true, true, true, true, false, false, false, false, false, false, false, false, false, false, false, false, false, false, false, false, false, false, false, false, false, false, false, false, false, false, false, false, false, false, false, false, false, false, false, false, false, false, false, false, false, false, false, false, false, false, false, false, false, false, false, false, false, false, false, false, false, false, false, false, false, false] rfl rfl (any_of HT_.out (by kernel_rfl)) (fun _ _ _ h => h) (Or.inl ⟨by rfl, ?_⟩) ?_ ?_
                  rotate_left
                  · intro w'
                    go_simp
                    with_reducible rfl
                  rotate_left
                  · simp only [Act.put, List.setIfInBounds_toArray, List.set_cons_zero, List.set_cons_succ, i64_w, i32_w]
                    rfl
                  refine pure_ (i := 16) (N := some 19) (v := ?_) (a' := ?_) #[true, true, true, true, true, true, true, true, true, true, true, true, true, true, true, true, true, false, false, false, false, false, false, false, false, false, false, false, false, false, false, false, false, false, false, false, false, false, false, false, false, false, false, false, false, false, false, false, false, false, false, false, false, false, false, false, false, false, false, false, false, false, false, false, false, false, false, false, false, false, false, false, false, false, false, false, false, false] rfl rfl (any_of HT_.out (by kernel_rfl)) (fun _ _ _ h => h) (Or.inl ⟨by rfl, ?_⟩) ?_ ?_
                  rotate_left
                  · intro w'
                    go_simp
                    with_reducible rfl
                  rotate_left
                  · simp only [Act.put, List.setIfInBounds_toArray, List.set_cons_zero, List.set_cons_succ, i64_w, i32_w]
                    rfl
                  refine pure_ (i := 17) (N := some 20) (v := ?_) (a' := ?_) #[true, true, true, true, true, true, true, true, true, true, true, true, true, true, true, true, true, true, false, false, false, false, false, false, false, false, false, false, false, false, false, false, false, false, false, false, false, false, false, false, false, false, false, false, false, false, false, false, false, false, false, false, false, false, false, false, false, false, false, false, false, false, false, false, false, false, false, false, false, false, false, false, false, false, false, false, false, false] rfl rfl (any_of HT_.out (by kernel_rfl)) (fun _ _ _ h => h) (Or.inl ⟨by rfl, ?_⟩) ?_ ?_
                  rotate_left
                  · intro w'
                    go_simp
                    with_reducible rfl
                  rotate_left
                  · simp only [Act.put, List.setIfInBounds_toArray, List.set_cons_zero, List.set_cons_succ, i64_w, i32_w]
                    rfl
                  refine pure_ (i := 18) (N := some 21) (v := ?_) (a' := ?_) #[true, true, true, true, true, true, true, true, true, true, true, true, true, true, true, true, true, true, true, false, false, false, false, false, false, false, false, false, false, false, false, false, false, false, false, false, false, false, false, false, false, false, false, false, false, false, false, false, false, false, false, false, false, false, false, false, false, false, false, false, false, false, false, false, false, false, false, false, false, false, false, false, false, false, false, false, false, false] rfl rfl (any_of HT_.out (by kernel_rfl)) (fun _ _ _ h => h) (Or.inl ⟨by rfl, ?_⟩) ?_ ?_
                  rotate_left
                  · intro w'
                    go_simp
                    with_reducible rfl
                  rotate_left
                  · simp only [Act.put, List.setIfInBounds_toArray, List.set_cons_zero, List.set_cons_succ, i64_w, i32_w]
                    rfl
                  refine pure_ (i := 21) (N := some 24) (v := ?_) (a' := ?_) #[true, true, true, true, true, true, true, true, true, true, true, true, true, true, true, true, true, true, true, false, false, true, false, false, false, false, false, false, false, false, false, false, false, false, false, false, false, false, false, false, false, false, false, false, false, false, false, false, false, false, false, false, false, false, false, false, false, false, false, false, false, false, false, false, false, false, false, false, false, false, false, false, false, false, false, false, false, false] rfl rfl (any_of HT_.out (by kernel_rfl)) (fun _ _ _ h => h) (Or.inl ⟨by rfl, ?_⟩) ?_ ?_
                  rotate_left
                  · intro w'
                    go_simp
                    with_reducible rfl
                  rotate_left
                  · simp only [Act.put, List.setIfInBounds_toArray, List.set_cons_zero, List.set_cons_succ, i64_w, i32_w]
                    rfl
                  refine take_ (i := 19) (N := some 22) (v := ?_) (a' := ?_) #[true, true, true, true, true, true, true, true, true, true, true, true, true, true, true, true, true, true, true, true, false, true, false, false, false, false, false, false, false, false, false, false, false, false, false, false, false, false, false, false, false, false, false, false, false, false, false, false, false, false, false, false, false, false, false, false, false, false, false, false, false, false, false, false, false, false, false, false, false, false, false, false, false, false, false, false, false, false] rfl rfl (take_ofW HT_.out HW_.out (by kernel_rfl)) (fun _ _ _ h => h) (Or.inl ⟨by rfl, ?_⟩) hHeld ?_ ?_
                  rotate_left
                  · rintro w' ⟨s0, s1, s2, s3, s4⟩
                    go_simp
                    with_reducible rfl
                  rotate_left
                  · simp only [Act.put, List.setIfInBounds_toArray, List.set_cons_zero, List.set_cons_succ, i64_w, i32_w]
                    rfl
                  refine take_ (i := 22) (N := some 25) (v := ?_) (a' := ?_) #[true, true, true, true, true, true, true, true, true, true, true, true, true, true, true, true, true, true, true, true, false, true, true, false, false, false, false, false, false, false, false, false, false, false, false, false, false, false, false, false, false, false, false, false, false, false, false, false, false, false, false, false, false, false, false, false, false, false, false, false, false, false, false, false, false, false, false, false, false, false, false, false, false, false, false, false, false, false] rfl rfl (take_ofW HT_.out HW_.out (by kernel_rfl)) (fun _ _ _ h => h) (Or.inl ⟨by rfl, ?_⟩) hHeld ?_ ?_
                  rotate_left
                  · rintro w' ⟨s0, s1, s2, s3, s4⟩
                    go_simp
                    with_reducible rfl
                  rotate_left
                  · simp only [Act.put, List.setIfInBounds_toArray, List.set_cons_zero, List.set_cons_succ, i64_w, i32_w]
                    rfl
                  refine one_ (i := 20) (N := some 23) #[true, true, true, true, true, true, true, true, true, true, true, true, true, true, true, true, true, true, true, true, true, true, true, false, false, false, false, false, false, false, false, false, false, false, false, false, false, false, false, false, false, false, false, false, false, false, false, false, false, false, false, false, false, false, false, false, false, false, false, false, false, false, false, false, false, false, false, false, false, false, false, false, false, false, false, false, false, false] rfl rfl (one_of HT_.out (by kernel_rfl)) (by decide) (fun K hK => ?_)
                  refine goes_ Tryd.func22 (by kernel_rfl) rfl #[.agg #[.int .i64 a0_0, .int .i64 a0_1]] (by rfl) rfl rfl (by (try simp only [List.map_toArray, List.map_cons, List.map_nil]); first | done | rfl | (simp only [List.length_drop, List.length_take]; rfl)) ?_
                  with_reducible refine (value_None.calls a0_0 a0_1 t255 t256 t257 t258 t259 _ A10.out).mono ?_
                  rintro e w34 ⟨rfl, hb⟩
                  refine ⟨_, rfl, ?_⟩
                  have n0_ := Aside0.mk (blk_below (g := gb249) (o := .cells #[.int .i64 a0_0, .int .i64 a0_1, .bool a0_2, .int .i64 a0_3, .string a0_4] 25 (0, 0)) (by (with_reducible repeat (first | refine blk_drewN ?_ _ | refine blk_drew ?_ | refine blk_alloc ?_ _)); exact BK249.out) hb)
                  have n1_ := Aside0.mk (below_step (by repeat (first | (with_reducible first | exact HB.out | apply below_alloc | apply pw_below_drewN | apply below_drew1 | refine below_set ?_ GE249.out) | exact HB.out)) hb)
                  clear BK249
                  clear HB
                  have BK249 := n0_
                  have HB := n1_
                  clear n0_ n1_
                  (try clear hb)
                  (try clear hb2)
                  (try clear hk)
                  (try clear hi)
                  refine hK.out _ _ ⟨(blk_cell BK249.out 0).trans rfl, (blk_cell BK249.out 1).trans rfl, (blk_cell BK249.out 2).trans rfl, (blk_cell BK249.out 3).trans rfl, (blk_cell BK249.out 4).trans rfl⟩ (fun hHeld => ?_)
                  clear hK K
                  refine norm_ (a' := ?_) ?_ ?_
                  rotate_left
                  · show Act.put _ (some 23) _ = _
                    simp only [Act.put, List.setIfInBounds_toArray, List.set_cons_zero, List.set_cons_succ, i64_w, i32_w]
                    rfl
                  refine one_ (i := 23) (N := some 26) #[true, true, true, true, true, true, true, true, true, true, true, true, true, true, true, true, true, true, true, true, true, true, true, true, false, false, false, false, false, false, false, false, false, false, false, false, false, false, false, false, false, false, false, false, false, false, false, false, false, false, false, false, false, false, false, false, false, false, false, false, false, false, false, false, false, false, false, false, false, false, false, false, false, false, false, false, false, false] rfl rfl (one_of HT_.out (by kernel_rfl)) (by decide) (fun K hK => ?_)
                  refine goes_ Tryd.func23 (by kernel_rfl) rfl #[.agg #[.int .i64 a0_0, .int .i64 a0_1]] (by rfl) rfl rfl (by (try simp only [List.map_toArray, List.map_cons, List.map_nil]); first | done | rfl | (simp only [List.length_drop, List.length_take]; rfl)) ?_
                  with_reducible refine (colonnaderef02_None.calls a0_0 a0_1 t260 t261 t262 t263 t264 _ A11.out).mono ?_
                  rintro e w35 ⟨rfl, hb⟩
                  refine ⟨_, rfl, ?_⟩
                  have n0_ := Aside0.mk (blk_below (g := gb249) (o := .cells #[.int .i64 a0_0, .int .i64 a0_1, .bool a0_2, .int .i64 a0_3, .string a0_4] 25 (0, 0)) (by (with_reducible repeat (first | refine blk_drewN ?_ _ | refine blk_drew ?_ | refine blk_alloc ?_ _)); exact BK249.out) hb)
                  have n1_ := Aside0.mk (below_step (by repeat (first | (with_reducible first | exact HB.out | apply below_alloc | apply pw_below_drewN | apply below_drew1 | refine below_set ?_ GE249.out) | exact HB.out)) hb)
                  clear BK249
                  clear HB
                  have BK249 := n0_
                  have HB := n1_
                  clear n0_ n1_
                  (try clear hb)
                  (try clear hb2)
                  (try clear hk)
                  (try clear hi)
                  refine hK.out _ _ ⟨(blk_cell BK249.out 0).trans rfl, (blk_cell BK249.out 1).trans rfl, (blk_cell BK249.out 2).trans rfl, (blk_cell BK249.out 3).trans rfl, (blk_cell BK249.out 4).trans rfl⟩ (fun hHeld => ?_)
                  clear hK K
                  refine norm_ (a' := ?_) ?_ ?_
                  rotate_left
                  · show Act.put _ (some 26) _ = _
                    simp only [Act.put, List.setIfInBounds_toArray, List.set_cons_zero, List.set_cons_succ, i64_w, i32_w]
                    rfl
                  refine pure_ (i := 24) (N := some 27) (v := ?_) (a' := ?_) #[true, true, true, true, true, true, true, true, true, true, true, true, true, true, true, true, true, true, true, true, true, true, true, true, true, false, false, false, false, false, false, false, false, false, false, false, false, false, false, false, false, false, false, false, false, false, false, false, false, false, false, false, false, false, false, false, false, false, false, false, false, false, false, false, false, false, false, false, false, false, false, false, false, false, false, false, false, false] rfl rfl (any_of HT_.out (by kernel_rfl)) (fun _ _ _ h => h) (Or.inl ⟨by rfl, ?_⟩) ?_ ?_
                  rotate_left
                  · intro w'
                    go_simp
                    with_reducible rfl
                  rotate_left
                  · simp only [Act.put, List.setIfInBounds_toArray, List.set_cons_zero, List.set_cons_succ, i64_w, i32_w]
                    rfl
                  refine pure_ (i := 25) (N := some 28) (v := ?_) (a' := ?_) #[true, true, true, true, true, true, true, true, true, true, true, true, true, true, true, true, true, true, true, true, true, true, true, true, true, true, false, false, false, false, false, false, false, false, false, false, false, false, false, false, false, false, false, false, false, false, false, false, false, false, false, false, false, false, false, false, false, false, false, false, false, false, false, false, false, false, false, false, false, false, false, false, false, false, false, false, false, false] rfl rfl (any_of HT_.out (by kernel_rfl)) (fun _ _ _ h => h) (Or.inl ⟨by rfl, ?_⟩) ?_ ?_
                  rotate_left
                  · intro w'
                    go_simp
                    with_reducible rfl
                  rotate_left
                  · simp only [Act.put, List.setIfInBounds_toArray, List.set_cons_zero, List.set_cons_succ, i64_w, i32_w]
                    rfl
                  refine pure_ (i := 26) (N := some 29) (v := ?_) (a' := ?_) #[true, true, true, true, true, true, true, true, true, true, true, true, true, true, true, true, true, true, true, true, true, true, true, true, true, true, true, false, false, false, false, false, false, false, false, false, false, false, false, false, false, false, false, false, false, false, false, false, false, false, false, false, false, false, false, false, false, false, false, false, false, false, false, false, false, false, false, false, false, false, false, false, false, false, false, false, false, false] rfl rfl (any_of HT_.out (by kernel_rfl)) (fun _ _ _ h => h) (Or.inl ⟨by rfl, ?_⟩) ?_ ?_
                  rotate_left
                  · intro w'
                    go_simp
                    with_reducible rfl
                  rotate_left
                  · simp only [Act.put, List.setIfInBounds_toArray, List.set_cons_zero, List.set_cons_succ, i64_w, i32_w]
                    rfl
                  refine pure_ (i := 27) (N := some 30) (v := ?_) (a' := ?_) #[true, true, true, true, true, true, true, true, true, true, true, true, true, true, true, true, true, true, true, true, true, true, true, true, true, true, true, true, false, false, false, false, false, false, false, false, false, false, false, false, false, false, false, false, false, false, false, false, false, false, false, false, false, false, false, false, false, false, false, false, false, false, false, false, false, false, false, false, false, false, false, false, false, false, false, false, false, false] rfl rfl (any_of HT_.out (by kernel_rfl)) (fun _ _ _ h => h) (Or.inl ⟨by rfl, ?_⟩) ?_ ?_
                  rotate_left
                  · intro w'
                    go_simp
                    with_reducible rfl
                  rotate_left
                  · simp only [Act.put, List.setIfInBounds_toArray, List.set_cons_zero, List.set_cons_succ, i64_w, i32_w]
                    rfl
                  refine pure_ (i := 30) (N := some 33) (v := ?_) (a' := ?_) #[true, true, true, true, true, true, true, true, true, true, true, true, true, true, true, true, true, true, true, true, true, true, true, true, true, true, true, true, false, false, true, false, false, false, false, false, false, false, false, false, false, false, false, false, false, false, false, false, false, false, false, false, false, false, false, false, false, false, false, false, false, false, false, false, false, false, false, false, false, false, false, false, false, false, false, false, false, false] rfl rfl (any_of HT_.out (by kernel_rfl)) (fun _ _ _ h => h) (Or.inl ⟨by rfl, ?_⟩) ?_ ?_
                  rotate_left
                  · intro w'
                    go_simp
                    with_reducible rfl
                  rotate_left
                  · simp only [Act.put, List.setIfInBounds_toArray, List.set_cons_zero, List.set_cons_succ, i64_w, i32_w]
                    rfl
                  refine take_ (i := 28) (N := some 31) (v := ?_) (a' := ?_) #[true, true, true, true, true, true, true, true, true, true, true, true, true, true, true, true, true, true, true, true, true, true, true, true, true, true, true, true, true, false, true, false, false, false, false, false, false, false, false, false, false, false, false, false, false, false, false, false, false, false, false, false, false, false, false, false, false, false, false, false, false, false, false, false, false, false, false, false, false, false, false, false, false, false, false, false, false, false] rfl rfl (take_ofW HT_.out HW_.out (by kernel_rfl)) (fun _ _ _ h => h) (Or.inl ⟨by rfl, ?_⟩) hHeld ?_ ?_
                  rotate_left
                  · rintro w' ⟨s0, s1, s2, s3, s4⟩
                    go_simp
                    with_reducible rfl
                  rotate_left
                  · simp only [Act.put, List.setIfInBounds_toArray, List.set_cons_zero, List.set_cons_succ, i64_w, i32_w]
                    rfl
                  refine take_ (i := 31) (N := some 34) (v := ?_) (a' := ?_) #[true, true, true, true, true, true, true, true, true, true, true, true, true, true, true, true, true, true, true, true, true, true, true, true, true, true, true, true, true, false, true, true, false, false, false, false, false, false, false, false, false, false, false, false, false, false, false, false, false, false, false, false, false, false, false, false, false, false, false, false, false, false, false, false, false, false, false, false, false, false, false, false, false, false, false, false, false, false] rfl rfl (take_ofW HT_.out HW_.out (by kernel_rfl)) (fun _ _ _ h => h) (Or.inl ⟨by rfl, ?_⟩) hHeld ?_ ?_
                  rotate_left
                  · rintro w' ⟨s0, s1, s2, s3, s4⟩
                    go_simp
                    with_reducible rfl
                  rotate_left
                  · simp only [Act.put, List.setIfInBounds_toArray, List.set_cons_zero, List.set_cons_succ, i64_w, i32_w]
                    rfl
                  refine one_ (i := 29) (N := some 32) #[true, true, true, true, true, true, true, true, true, true, true, true, true, true, true, true, true, true, true, true, true, true, true, true, true, true, true, true, true, true, true, true, false, false, false, false, false, false, false, false, false, false, false, false, false, false, false, false, false, false, false, false, false, false, false, false, false, false, false, false, false, false, false, false, false, false, false, false, false, false, false, false, false, false, false, false, false, false] rfl rfl (one_of HT_.out (by kernel_rfl)) (by decide) (fun K hK => ?_)
                  refine goes_ Tryd.func24 (by kernel_rfl) rfl #[.bool a0_2] (by rfl) rfl rfl (by (try simp only [List.map_toArray, List.map_cons, List.map_nil]); first | done | rfl | (simp only [List.length_drop, List.length_take]; rfl)) ?_
                  with_reducible refine (value_OfBool.calls a0_2 t265 t266 t267 t268 t269 _ A13.out).mono ?_
                  rintro e w36 ⟨rfl, hb⟩
                  refine ⟨_, rfl, ?_⟩
                  have n0_ := Aside0.mk (blk_below (g := gb249) (o := .cells #[.int .i64 a0_0, .int .i64 a0_1, .bool a0_2, .int .i64 a0_3, .string a0_4] 25 (0, 0)) (by (with_reducible repeat (first | refine blk_drewN ?_ _ | refine blk_drew ?_ | refine blk_alloc ?_ _)); exact BK249.out) hb)
                  have n1_ := Aside0.mk (below_step (by repeat (first | (with_reducible first | exact HB.out | apply below_alloc | apply pw_below_drewN | apply below_drew1 | refine below_set ?_ GE249.out) | exact HB.out)) hb)
                  clear BK249
                  clear HB
                  have BK249 := n0_
                  have HB := n1_
                  clear n0_ n1_
                  (try clear hb)
                  (try clear hb2)
                  (try clear hk)
                  (try clear hi)
                  refine hK.out _ _ ⟨(blk_cell BK249.out 0).trans rfl, (blk_cell BK249.out 1).trans rfl, (blk_cell BK249.out 2).trans rfl, (blk_cell BK249.out 3).trans rfl, (blk_cell BK249.out 4).trans rfl⟩ (fun hHeld => ?_)
                  clear hK K
                  refine norm_ (a' := ?_) ?_ ?_
                  rotate_left
                  · show Act.put _ (some 32) _ = _
                    simp only [Act.put, List.setIfInBounds_toArray, List.set_cons_zero, List.set_cons_succ, i64_w, i32_w]
                    rfl
                  refine one_ (i := 32) (N := some 35) #[true, true, true, true, true, true, true, true, true, true, true, true, true, true, true, true, true, true, true, true, true, true, true, true, true, true, true, true, true, true, true, true, true, false, false, false, false, false, false, false, false, false, false, false, false, false, false, false, false, false, false, false, false, false, false, false, false, false, false, false, false, false, false, false, false, false, false, false, false, false, false, false, false, false, false, false, false, false] rfl rfl (one_of HT_.out (by kernel_rfl)) (by decide) (fun K hK => ?_)
                  refine goes_ Tryd.func25 (by kernel_rfl) rfl #[.bool a0_2] (by rfl) rfl rfl (by (try simp only [List.map_toArray, List.map_cons, List.map_nil]); first | done | rfl | (simp only [List.length_drop, List.length_take]; rfl)) ?_
                  with_reducible refine (colonnaderef02_OfBool.calls a0_2 t270 t271 t272 t273 t274 _ A14.out).mono ?_
                  rintro e w37 ⟨rfl, hb⟩
                  refine ⟨_, rfl, ?_⟩
                  have n0_ := Aside0.mk (blk_below (g := gb249) (o := .cells #[.int .i64 a0_0, .int .i64 a0_1, .bool a0_2, .int .i64 a0_3, .string a0_4] 25 (0, 0)) (by (with_reducible repeat (first | refine blk_drewN ?_ _ | refine blk_drew ?_ | refine blk_alloc ?_ _)); exact BK249.out) hb)
                  have n1_ := Aside0.mk (below_step (by repeat (first | (with_reducible first | exact HB.out | apply below_alloc | apply pw_below_drewN | apply below_drew1 | refine below_set ?_ GE249.out) | exact HB.out)) hb)
                  clear BK249
                  clear HB
                  have BK249 := n0_
                  have HB := n1_
                  clear n0_ n1_
                  (try clear hb)
                  (try clear hb2)
                  (try clear hk)
                  (try clear hi)
                  refine hK.out _ _ ⟨(blk_cell BK249.out 0).trans rfl, (blk_cell BK249.out 1).trans rfl, (blk_cell BK249.out 2).trans rfl, (blk_cell BK249.out 3).trans rfl, (blk_cell BK249.out 4).trans rfl⟩ (fun hHeld => ?_)
                  clear hK K
                  refine norm_ (a' := ?_) ?_ ?_
                  rotate_left
                  · show Act.put _ (some 35) _ = _
                    simp only [Act.put, List.setIfInBounds_toArray, List.set_cons_zero, List.set_cons_succ, i64_w, i32_w]
                    rfl
                  refine pure_ (i := 33) (N := some 36) (v := ?_) (a' := ?_) #[true, true, true, true, true, true, true, true, true, true, true, true, true, true, true, true, true, true, true, true, true, true, true, true, true, true, true, true, true, true, true, true, true, true, false, false, false, false, false, false, false, false, false, false, false, false, false, false, false, false, false, false, false, false, false, false, false, false, false, false, false, false, false, false, false, false, false, false, false, false, false, false, false, false, false, false, false, false] rfl rfl (any_of HT_.out (by kernel_rfl)) (fun _ _ _ h => h) (Or.inl ⟨by rfl, ?_⟩) ?_ ?_
                  rotate_left
                  · intro w'
                    go_simp
                    with_reducible rfl
                  rotate_left
                  · simp only [Act.put, List.setIfInBounds_toArray, List.set_cons_zero, List.set_cons_succ, i64_w, i32_w]
                    rfl
                  refine pure_ (i := 34) (N := some 37) (v := ?_) (a' := ?_) #[true, true, true, true, true, true, true, true, true, true, true, true, true, true, true, true, true, true, true, true, true, true, true, true, true, true, true, true, true, true, true, true, true, true, true, false, false, false, false, false, false, false, false, false, false, false, false, false, false, false, false, false, false, false, false, false, false, false, false, false, false, false, false, false, false, false, false, false, false, false, false, false, false, false, false, false, false, false] rfl rfl (any_of HT_.out (by kernel_rfl)) (fun _ _ _ h => h) (Or.inl ⟨by rfl, ?_⟩) ?_ ?_
                  rotate_left
                  · intro w'
                    go_simp
                    with_reducible rfl
                  rotate_left
                  · simp only [Act.put, List.setIfInBounds_toArray, List.set_cons_zero, List.set_cons_succ, i64_w, i32_w]
                    rfl
                  refine pure_ (i := 35) (N := some 38) (v := ?_) (a' := ?_) #[true, true, true, true, true, true, true, true, true, true, true, true, true, true, true, true, true, true, true, true, true, true, true, true, true, true, true, true, true, true, true, true, true, true, true, true, false, false, false, false, false, false, false, false, false, false, false, false, false, false, false, false, false, false, false, false, false, false, false, false, false, false, false, false, false, false, false, false, false, false, false, false, false, false, false, false, false, false] rfl rfl (any_of HT_.out (by kernel_rfl)) (fun _ _ _ h => h) (Or.inl ⟨by rfl, ?_⟩) ?_ ?_
                  rotate_left
                  · intro w'
                    go_simp
                    with_reducible rfl
                  rotate_left
                  · simp only [Act.put, List.setIfInBounds_toArray, List.set_cons_zero, List.set_cons_succ, i64_w, i32_w]
                    rfl
                  refine pure_ (i := 36) (N := some 39) (v := ?_) (a' := ?_) #[true, true, true, true, true, true, true, true, true, true, true, true, true, true, true, true, true, true, true, true, true, true, true, true, true, true, true, true, true, true, true, true, true, true, true, true, true, false, false, false, false, false, false, false, false, false, false, false, false, false, false, false, false, false, false, false, false, false, false, false, false, false, false, false, false, false, false, false, false, false, false, false, false, false, false, false, false, false] rfl rfl (any_of HT_.out (by kernel_rfl)) (fun _ _ _ h => h) (Or.inl ⟨by rfl, ?_⟩) ?_ ?_
                  rotate_left
                  · intro w'
                    go_simp
                    with_reducible rfl
                  rotate_left
                  · simp only [Act.put, List.setIfInBounds_toArray, List.set_cons_zero, List.set_cons_succ, i64_w, i32_w]
                    rfl
                  refine pure_ (i := 39) (N := some 42) (v := ?_) (a' := ?_) #[true, true, true, true, true, true, true, true, true, true, true, true, true, true, true, true, true, true, true, true, true, true, true, true, true, true, true, true, true, true, true, true, true, true, true, true, true, false, false, true, false, false, false, false, false, false, false, false, false, false, false, false, false, false, false, false, false, false, false, false, false, false, false, false, false, false, false, false, false, false, false, false, false, false, false, false, false, false] rfl rfl (any_of HT_.out (by kernel_rfl)) (fun _ _ _ h => h) (Or.inl ⟨by rfl, ?_⟩) ?_ ?_
                  rotate_left
                  · intro w'
                    go_simp
                    with_reducible rfl
                  rotate_left
                  · simp only [Act.put, List.setIfInBounds_toArray, List.set_cons_zero, List.set_cons_succ, i64_w, i32_w]
                    rfl
                  refine take_ (i := 37) (N := some 40) (v := ?_) (a' := ?_) #[true, true, true, true, true, true, true, true, true, true, true, true, true, true, true, true, true, true, true, true, true, true, true, true, true, true, true, true, true, true, true, true, true, true, true, true, true, true, false, true, false, false, false, false, false, false, false, false, false, false, false, false, false, false, false, false, false, false, false, false, false, false, false, false, false, false, false, false, false, false, false, false, false, false, false, false, false, false] rfl rfl (take_ofW HT_.out HW_.out (by kernel_rfl)) (fun _ _ _ h => h) (Or.inl ⟨by rfl, ?_⟩) hHeld ?_ ?_
                  rotate_left
                  · rintro w' ⟨s0, s1, s2, s3, s4⟩
                    go_simp
                    with_reducible rfl
                  rotate_left
                  · simp only [Act.put, List.setIfInBounds_toArray, List.set_cons_zero, List.set_cons_succ, i64_w, i32_w]
                    rfl
                  refine take_ (i := 40) (N := some 43) (v := ?_) (a' := ?_) #[true, true, true, true, true, true, true, true, true, true, true, true, true, true, true, true, true, true, true, true, true, true, true, true, true, true, true, true, true, true, true, true, true, true, true, true, true, true, false, true, true, false, false, false, false, false, false, false, false, false, false, false, false, false, false, false, false, false, false, false, false, false, false, false, false, false, false, false, false, false, false, false, false, false, false, false, false, false] rfl rfl (take_ofW HT_.out HW_.out (by kernel_rfl)) (fun _ _ _ h => h) (Or.inl ⟨by rfl, ?_⟩) hHeld ?_ ?_
                  rotate_left
                  · rintro w' ⟨s0, s1, s2, s3, s4⟩
                    go_simp
                    with_reducible rfl
                  rotate_left
                  · simp only [Act.put, List.setIfInBounds_toArray, List.set_cons_zero, List.set_cons_succ, i64_w, i32_w]
                    rfl
                  refine one_ (i := 38) (N := some 41) #[true, true, true, true, true, true, true, true, true, true, true, true, true, true, true, true, true, true, true, true, true, true, true, true, true, true, true, true, true, true, true, true, true, true, true, true, true, true, true, true, true, false, false, false, false, false, false, false, false, false, false, false, false, false, false, false, false, false, false, false, false, false, false, false, false, false, false, false, false, false, false, false, false, false, false, false, false, false] rfl rfl (one_of HT_.out (by kernel_rfl)) (by decide) (fun K hK => ?_)
                  refine goes_ Tryd.func26 (by kernel_rfl) rfl #[.int .i64 a0_3] (by rfl) rfl rfl (by (try simp only [List.map_toArray, List.map_cons, List.map_nil]); first | done | rfl | (simp only [List.length_drop, List.length_take]; rfl)) ?_
                  with_reducible refine (value_OfInt.calls a0_3 t275 t276 t277 t278 t279 _ A16.out).mono ?_
                  rintro e w38 ⟨rfl, hb⟩
                  refine ⟨_, rfl, ?_⟩
                  have n0_ := Aside0.mk (blk_below (g := gb249) (o := .cells #[.int .i64 a0_0, .int .i64 a0_1, .bool a0_2, .int .i64 a0_3, .string a0_4] 25 (0, 0)) (by (with_reducible repeat (first | refine blk_drewN ?_ _ | refine blk_drew ?_ | refine blk_alloc ?_ _)); exact BK249.out) hb)
                  have n1_ := Aside0.mk (below_step (by repeat (first | (with_reducible first | exact HB.out | apply below_alloc | apply pw_below_drewN | apply below_drew1 | refine below_set ?_ GE249.out) | exact HB.out)) hb)
                  clear BK249
                  clear HB
                  have BK249 := n0_
                  have HB := n1_
                  clear n0_ n1_
                  (try clear hb)
                  (try clear hb2)
                  (try clear hk)
                  (try clear hi)
                  refine hK.out _ _ ⟨(blk_cell BK249.out 0).trans rfl, (blk_cell BK249.out 1).trans rfl, (blk_cell BK249.out 2).trans rfl, (blk_cell BK249.out 3).trans rfl, (blk_cell BK249.out 4).trans rfl⟩ (fun hHeld => ?_)
                  clear hK K
                  refine norm_ (a' := ?_) ?_ ?_
                  rotate_left
                  · show Act.put _ (some 41) _ = _
                    simp only [Act.put, List.setIfInBounds_toArray, List.set_cons_zero, List.set_cons_succ, i64_w, i32_w]
                    rfl
                  refine one_ (i := 41) (N := some 44) #[true, true, true, true, true, true, true, true, true, true, true, true, true, true, true, true, true, true, true, true, true, true, true, true, true, true, true, true, true, true, true, true, true, true, true, true, true, true, true, true, true, true, false, false, false, false, false, false, false, false, false, false, false, false, false, false, false, false, false, false, false, false, false, false, false, false, false, false, false, false, false, false, false, false, false, false, false, false] rfl rfl (one_of HT_.out (by kernel_rfl)) (by decide) (fun K hK => ?_)
                  refine goes_ Tryd.func27 (by kernel_rfl) rfl #[.int .i64 a0_3] (by rfl) rfl rfl (by (try simp only [List.map_toArray, List.map_cons, List.map_nil]); first | done | rfl | (simp only [List.length_drop, List.length_take]; rfl)) ?_
                  with_reducible refine (colonnaderef02_OfInt.calls a0_3 t280 t281 t282 t283 t284 _ A17.out).mono ?_
                  rintro e w39 ⟨rfl, hb⟩
                  refine ⟨_, rfl, ?_⟩
                  have n0_ := Aside0.mk (blk_below (g := gb249) (o := .cells #[.int .i64 a0_0, .int .i64 a0_1, .bool a0_2, .int .i64 a0_3, .string a0_4] 25 (0, 0)) (by (with_reducible repeat (first | refine blk_drewN ?_ _ | refine blk_drew ?_ | refine blk_alloc ?_ _)); exact BK249.out) hb)
                  have n1_ := Aside0.mk (below_step (by repeat (first | (with_reducible first | exact HB.out | apply below_alloc | apply pw_below_drewN | apply below_drew1 | refine below_set ?_ GE249.out) | exact HB.out)) hb)
                  clear BK249
                  clear HB
                  have BK249 := n0_
                  have HB := n1_
                  clear n0_ n1_
                  (try clear hb)
                  (try clear hb2)
                  (try clear hk)
                  (try clear hi)
                  refine hK.out _ _ ⟨(blk_cell BK249.out 0).trans rfl, (blk_cell BK249.out 1).trans rfl, (blk_cell BK249.out 2).trans rfl, (blk_cell BK249.out 3).trans rfl, (blk_cell BK249.out 4).trans rfl⟩ (fun hHeld => ?_)
                  clear hK K
                  refine norm_ (a' := ?_) ?_ ?_
                  rotate_left
                  · show Act.put _ (some 44) _ = _
                    simp only [Act.put, List.setIfInBounds_toArray, List.set_cons_zero, List.set_cons_succ, i64_w, i32_w]
                    rfl
                  refine pure_ (i := 42) (N := some 45) (v := ?_) (a' := ?_) #[true, true, true, true, true, true, true, true, true, true, true, true, true, true, true, true, true, true, true, true, true, true, true, true, true, true, true, true, true, true, true, true, true, true, true, true, true, true, true, true, true, true, true, false, false, false, false, false, false, false, false, false, false, false, false, false, false, false, false, false, false, false, false, false, false, false, false, false, false, false, false, false, false, false, false, false, false, false] rfl rfl (any_of HT_.out (by kernel_rfl)) (fun _ _ _ h => h) (Or.inl ⟨by rfl, ?_⟩) ?_ ?_
                  rotate_left
                  · intro w'
                    go_simp
                    with_reducible rfl
                  rotate_left
                  · simp only [Act.put, List.setIfInBounds_toArray, List.set_cons_zero, List.set_cons_succ, i64_w, i32_w]
                    rfl
                  refine pure_ (i := 43) (N := some 46) (v := ?_) (a' := ?_) #[true, true, true, true, true, true, true, true, true, true, true, true, true, true, true, true, true, true, true, true, true, true, true, true, true, true, true, true, true, true, true, true, true, true, true, true, true, true, true, true, true, true, true, true, false, false, false, false, false, false, false, false, false, false, false, false, false, false, false, false, false, false, false, false, false, false, false, false, false, false, false, false, false, false, false, false, false, false] rfl rfl (any_of HT_.out (by kernel_rfl)) (fun _ _ _ h => h) (Or.inl ⟨by rfl, ?_⟩) ?_ ?_
                  rotate_left
                  · intro w'
                    go_simp
                    with_reducible rfl
                  rotate_left
                  · simp only [Act.put, List.setIfInBounds_toArray, List.set_cons_zero, List.set_cons_succ, i64_w, i32_w]
                    rfl
                  refine pure_ (i := 44) (N := some 47) (v := ?_) (a' := ?_) #[true, true, true, true, true, true, true, true, true, true, true, true, true, true, true, true, true, true, true, true, true, true, true, true, true, true, true, true, true, true, true, true, true, true, true, true, true, true, true, true, true, true, true, true, true, false, false, false, false, false, false, false, false, false, false, false, false, false, false, false, false, false, false, false, false, false, false, false, false, false, false, false, false, false, false, false, false, false] rfl rfl (any_of HT_.out (by kernel_rfl)) (fun _ _ _ h => h) (Or.inl ⟨by rfl, ?_⟩) ?_ ?_
                  rotate_left
                  · intro w'
                    go_simp
                    with_reducible rfl
                  rotate_left
                  · simp only [Act.put, List.setIfInBounds_toArray, List.set_cons_zero, List.set_cons_succ, i64_w, i32_w]
                    rfl
                  refine pure_ (i := 45) (N := some 48) (v := ?_) (a' := ?_) #[true, true, true, true, true, true, true, true, true, true, true, true, true, true, true, true, true, true, true, true, true, true, true, true, true, true, true, true, true, true, true, true, true, true, true, true, true, true, true, true, true, true, true, true, true, true, false, false, false, false, false, false, false, false, false, false, false, false, false, false, false, false, false, false, false, false, false, false, false, false, false, false, false, false, false, false, false, false] rfl rfl (any_of HT_.out (by kernel_rfl)) (fun _ _ _ h => h) (Or.inl ⟨by rfl, ?_⟩) ?_ ?_
                  rotate_left
                  · intro w'
                    go_simp
                    with_reducible rfl
                  rotate_left
                  · simp only [Act.put, List.setIfInBounds_toArray, List.set_cons_zero, List.set_cons_succ, i64_w, i32_w]
                    rfl
                  refine pure_ (i := 47) (N := some 50) (v := ?_) (a' := ?_) #[true, true, true, true, true, true, true, true, true, true, true, true, true, true, true, true, true, true, true, true, true, true, true, true, true, true, true, true, true, true, true, true, true, true, true, true, true, true, true, true, true, true, true, true, true, true, false, true, false, false, false, false, false, false, false, false, false, false, false, false, false, false, false, false, false, false, false, false, false, false, false, false, false, false, false, false, false, false] rfl rfl (any_of HT_.out (by kernel_rfl)) (fun _ _ _ h => h) (Or.inl ⟨by rfl, ?_⟩) ?_ ?_
                  rotate_left
                  · intro w'
                    go_simp
                    with_reducible rfl
                  rotate_left
                  · simp only [Act.put, List.setIfInBounds_toArray, List.set_cons_zero, List.set_cons_succ, i64_w, i32_w]
                    rfl
                  refine pure_ (i := 48) (N := some 51) (v := ?_) (a' := ?_) #[true, true, true, true, true, true, true, true, true, true, true, true, true, true, true, true, true, true, true, true, true, true, true, true, true, true, true, true, true, true, true, true, true, true, true, true, true, true, true, true, true, true, true, true, true, true, false, true, true, false, false, false, false, false, false, false, false, false, false, false, false, false, false, false, false, false, false, false, false, false, false, false, false, false, false, false, false, false] rfl rfl (any_of HT_.out (by kernel_rfl)) (fun _ _ _ h => h) (Or.inl ⟨by rfl, ?_⟩) ?_ ?_
                  rotate_left
                  · intro w'
                    go_simp
                    with_reducible rfl
                  rotate_left
                  · simp only [Act.put, List.setIfInBounds_toArray, List.set_cons_zero, List.set_cons_succ, i64_w, i32_w]
                    rfl
                  refine pure_ (i := 51) (N := some 54) (v := ?_) (a' := ?_) #[true, true, true, true, true, true, true, true, true, true, true, true, true, true, true, true, true, true, true, true, true, true, true, true, true, true, true, true, true, true, true, true, true, true, true, true, true, true, true, true, true, true, true, true, true, true, false, true, true, false, false, true, false, false, false, false, false, false, false, false, false, false, false, false, false, false, false, false, false, false, false, false, false, false, false, false, false, false] rfl rfl (any_of HT_.out (by kernel_rfl)) (fun _ _ _ h => h) (Or.inl ⟨by rfl, ?_⟩) ?_ ?_
                  rotate_left
                  · intro w'
                    go_simp
                    with_reducible rfl
                  rotate_left
                  · simp only [Act.put, List.setIfInBounds_toArray, List.set_cons_zero, List.set_cons_succ, i64_w, i32_w]
                    rfl
                  refine pure_ (i := 53) (N := some 56) (v := ?_) (a' := ?_) #[true, true, true, true, true, true, true, true, true, true, true, true, true, true, true, true, true, true, true, true, true, true, true, true, true, true, true, true, true, true, true, true, true, true, true, true, true, true, true, true, true, true, true, true, true, true, false, true, true, false, false, true, false, true, false, false, false, false, false, false, false, false, false, false, false, false, false, false, false, false, false, false, false, false, false, false, false, false] rfl rfl (any_of HT_.out (by kernel_rfl)) (fun _ _ _ h => h) (Or.inl ⟨by rfl, ?_⟩) ?_ ?_
                  rotate_left
                  · intro w'
                    go_simp
                    with_reducible rfl
                  rotate_left
                  · simp only [Act.put, List.setIfInBounds_toArray, List.set_cons_zero, List.set_cons_succ, i64_w, i32_w]
                    rfl
                  refine pure_ (i := 54) (N := some 57) (v := ?_) (a' := ?_) #[true, true, true, true, true, true, true, true, true, true, true, true, true, true, true, true, true, true, true, true, true, true, true, true, true, true, true, true, true, true, true, true, true, true, true, true, true, true, true, true, true, true, true, true, true, true, false, true, true, false, false, true, false, true, true, false, false, false, false, false, false, false, false, false, false, false, false, false, false, false, false, false, false, false, false, false, false, false] rfl rfl (any_of HT_.out (by kernel_rfl)) (fun _ _ _ h => h) (Or.inl ⟨by rfl, ?_⟩) ?_ ?_
                  rotate_left
                  · intro w'
                    go_simp
                    with_reducible rfl
                  rotate_left
                  · simp only [Act.put, List.setIfInBounds_toArray, List.set_cons_zero, List.set_cons_succ, i64_w, i32_w]
                    rfl
                  refine take_ (i := 46) (N := some 49) (v := ?_) (a' := ?_) #[true, true, true, true, true, true, true, true, true, true, true, true, true, true, true, true, true, true, true, true, true, true, true, true, true, true, true, true, true, true, true, true, true, true, true, true, true, true, true, true, true, true, true, true, true, true, true, true, true, false, false, true, false, true, true, false, false, false, false, false, false, false, false, false, false, false, false, false, false, false, false, false, false, false, false, false, false, false] rfl rfl (take_ofW HT_.out HW_.out (by kernel_rfl)) (fun _ _ _ h => h) (Or.inl ⟨by rfl, ?_⟩) hHeld ?_ ?_
                  rotate_left
                  · rintro w' ⟨s0, s1, s2, s3, s4⟩
                    go_simp
                    with_reducible rfl
                  rotate_left
                  · simp only [Act.put, List.setIfInBounds_toArray, List.set_cons_zero, List.set_cons_succ, i64_w, i32_w]
                    rfl
                  refine take_ (i := 49) (N := some 52) (v := ?_) (a' := ?_) #[true, true, true, true, true, true, true, true, true, true, true, true, true, true, true, true, true, true, true, true, true, true, true, true, true, true, true, true, true, true, true, true, true, true, true, true, true, true, true, true, true, true, true, true, true, true, true, true, true, true, false, true, false, true, true, false, false, false, false, false, false, false, false, false, false, false, false, false, false, false, false, false, false, false, false, false, false, false] rfl rfl (take_ofW HT_.out HW_.out (by kernel_rfl)) (fun _ _ _ h => h) (Or.inl ⟨by rfl, ?_⟩) hHeld ?_ ?_
                  rotate_left
                  · rintro w' ⟨s0, s1, s2, s3, s4⟩
                    go_simp
                    with_reducible rfl
                  rotate_left
                  · simp only [Act.put, List.setIfInBounds_toArray, List.set_cons_zero, List.set_cons_succ, i64_w, i32_w]
                    rfl
                  refine take_ (i := 52) (N := some 55) (v := ?_) (a' := ?_) #[true, true, true, true, true, true, true, true, true, true, true, true, true, true, true, true, true, true, true, true, true, true, true, true, true, true, true, true, true, true, true, true, true, true, true, true, true, true, true, true, true, true, true, true, true, true, true, true, true, true, false, true, true, true, true, false, false, false, false, false, false, false, false, false, false, false, false, false, false, false, false, false, false, false, false, false, false, false] rfl rfl (take_ofW HT_.out HW_.out (by kernel_rfl)) (fun _ _ _ h => h) (Or.inl ⟨by rfl, ?_⟩) hHeld ?_ ?_
                  rotate_left
                  · rintro w' ⟨s0, s1, s2, s3, s4⟩
                    go_simp
                    with_reducible rfl
                  rotate_left
                  · simp only [Act.put, List.setIfInBounds_toArray, List.set_cons_zero, List.set_cons_succ, i64_w, i32_w]
                    rfl
                  refine take_ (i := 55) (N := some 58) (v := ?_) (a' := ?_) #[true, true, true, true, true, true, true, true, true, true, true, true, true, true, true, true, true, true, true, true, true, true, true, true, true, true, true, true, true, true, true, true, true, true, true, true, true, true, true, true, true, true, true, true, true, true, true, true, true, true, false, true, true, true, true, true, false, false, false, false, false, false, false, false, false, false, false, false, false, false, false, false, false, false, false, false, false, false] rfl rfl (take_ofW HT_.out HW_.out (by kernel_rfl)) (fun _ _ _ h => h) (Or.inl ⟨by rfl, ?_⟩) hHeld ?_ ?_
                  rotate_left
                  · rintro w' ⟨s0, s1, s2, s3, s4⟩
                    go_simp
                    with_reducible rfl
                  rotate_left
                  · simp only [Act.put, List.setIfInBounds_toArray, List.set_cons_zero, List.set_cons_succ, i64_w, i32_w]
                    rfl
                  refine one_ (i := 50) (N := some 53) #[true, true, true, true, true, true, true, true, true, true, true, true, true, true, true, true, true, true, true, true, true, true, true, true, true, true, true, true, true, true, true, true, true, true, true, true, true, true, true, true, true, true, true, true, true, true, true, true, true, true, true, true, true, true, true, true, false, false, false, false, false, false, false, false, false, false, false, false, false, false, false, false, false, false, false, false, false, false] rfl rfl (one_of HT_.out (by kernel_rfl)) (by decide) (fun K hK => ?_)
                  refine goes_ Tryd.func28 (by kernel_rfl) rfl #[.int .i64 a0_3, .int .i64 a0_1] (by rfl) rfl rfl (by (try simp only [List.map_toArray, List.map_cons, List.map_nil]); first | done | rfl | (simp only [List.length_drop, List.length_take]; rfl)) ?_
                  with_reducible refine (value_OfDec.calls a0_3 a0_1 t285 t286 t287 t288 t289 _ A19.out).mono ?_
                  rintro e w40 ⟨rfl, hb⟩
                  refine ⟨_, rfl, ?_⟩
                  have n0_ := Aside0.mk (blk_below (g := gb249) (o := .cells #[.int .i64 a0_0, .int .i64 a0_1, .bool a0_2, .int .i64 a0_3, .string a0_4] 25 (0, 0)) (by (with_reducible repeat (first | refine blk_drewN ?_ _ | refine blk_drew ?_ | refine blk_alloc ?_ _)); exact BK249.out) hb)
                  have n1_ := Aside0.mk (below_step (by repeat (first | (with_reducible first | exact HB.out | apply below_alloc | apply pw_below_drewN | apply below_drew1 | refine below_set ?_ GE249.out) | exact HB.out)) hb)
                  clear BK249
                  clear HB
                  have BK249 := n0_
                  have HB := n1_
                  clear n0_ n1_
                  (try clear hb)
                  (try clear hb2)
                  (try clear hk)
                  (try clear hi)
                  refine hK.out _ _ ⟨(blk_cell BK249.out 0).trans rfl, (blk_cell BK249.out 1).trans rfl, (blk_cell BK249.out 2).trans rfl, (blk_cell BK249.out 3).trans rfl, (blk_cell BK249.out 4).trans rfl⟩ (fun hHeld => ?_)
                  clear hK K
                  refine norm_ (a' := ?_) ?_ ?_
                  rotate_left
                  · show Act.put _ (some 53) _ = _
                    simp only [Act.put, List.setIfInBounds_toArray, List.set_cons_zero, List.set_cons_succ, i64_w, i32_w]
                    rfl
                  refine one_ (i := 56) (N := some 59) #[true, true, true, true, true, true, true, true, true, true, true, true, true, true, true, true, true, true, true, true, true, true, true, true, true, true, true, true, true, true, true, true, true, true, true, true, true, true, true, true, true, true, true, true, true, true, true, true, true, true, true, true, true, true, true, true, true, false, false, false, false, false, false, false, false, false, false, false, false, false, false, false, false, false, false, false, false, false] rfl rfl (one_of HT_.out (by kernel_rfl)) (by decide) (fun K hK => ?_)
                  refine goes_ Tryd.func29 (by kernel_rfl) rfl #[.int .i64 a0_3, .int .i64 a0_1] (by rfl) rfl rfl (by (try simp only [List.map_toArray, List.map_cons, List.map_nil]); first | done | rfl | (simp only [List.length_drop, List.length_take]; rfl)) ?_
                  with_reducible refine (colonnaderef02_OfDec.calls a0_3 a0_1 t290 t291 t292 t293 t294 _ A20.out).mono ?_
                  rintro e w41 ⟨rfl, hb⟩
                  refine ⟨_, rfl, ?_⟩
                  have n0_ := Aside0.mk (blk_below (g := gb249) (o := .cells #[.int .i64 a0_0, .int .i64 a0_1, .bool a0_2, .int .i64 a0_3, .string a0_4] 25 (0, 0)) (by (with_reducible repeat (first | refine blk_drewN ?_ _ | refine blk_drew ?_ | refine blk_alloc ?_ _)); exact BK249.out) hb)
                  have n1_ := Aside0.mk (below_step (by repeat (first | (with_reducible first | exact HB.out | apply below_alloc | apply pw_below_drewN | apply below_drew1 | refine below_set ?_ GE249.out) | exact HB.out)) hb)
                  clear BK249
                  clear HB
                  have BK249 := n0_
                  have HB := n1_
                  clear n0_ n1_
                  (try clear hb)
                  (try clear hb2)
                  (try clear hk)
                  (try clear hi)
                  refine hK.out _ _ ⟨(blk_cell BK249.out 0).trans rfl, (blk_cell BK249.out 1).trans rfl, (blk_cell BK249.out 2).trans rfl, (blk_cell BK249.out 3).trans rfl, (blk_cell BK249.out 4).trans rfl⟩ (fun hHeld => ?_)
                  clear hK K
                  refine norm_ (a' := ?_) ?_ ?_
                  rotate_left
                  · show Act.put _ (some 59) _ = _
                    simp only [Act.put, List.setIfInBounds_toArray, List.set_cons_zero, List.set_cons_succ, i64_w, i32_w]
                    rfl
                  refine pure_ (i := 57) (N := some 60) (v := ?_) (a' := ?_) #[true, true, true, true, true, true, true, true, true, true, true, true, true, true, true, true, true, true, true, true, true, true, true, true, true, true, true, true, true, true, true, true, true, true, true, true, true, true, true, true, true, true, true, true, true, true, true, true, true, true, true, true, true, true, true, true, true, true, false, false, false, false, false, false, false, false, false, false, false, false, false, false, false, false, false, false, false, false] rfl rfl (any_of HT_.out (by kernel_rfl)) (fun _ _ _ h => h) (Or.inl ⟨by rfl, ?_⟩) ?_ ?_
                  rotate_left
                  · intro w'
                    go_simp
                    with_reducible rfl
                  rotate_left
                  · simp only [Act.put, List.setIfInBounds_toArray, List.set_cons_zero, List.set_cons_succ, i64_w, i32_w]
                    rfl
                  refine pure_ (i := 58) (N := some 61) (v := ?_) (a' := ?_) #[true, true, true, true, true, true, true, true, true, true, true, true, true, true, true, true, true, true, true, true, true, true, true, true, true, true, true, true, true, true, true, true, true, true, true, true, true, true, true, true, true, true, true, true, true, true, true, true, true, true, true, true, true, true, true, true, true, true, true, false, false, false, false, false, false, false, false, false, false, false, false, false, false, false, false, false, false, false] rfl rfl (any_of HT_.out (by kernel_rfl)) (fun _ _ _ h => h) (Or.inl ⟨by rfl, ?_⟩) ?_ ?_
                  rotate_left
                  · intro w'
                    go_simp
                    with_reducible rfl
                  rotate_left
                  · simp only [Act.put, List.setIfInBounds_toArray, List.set_cons_zero, List.set_cons_succ, i64_w, i32_w]
                    rfl
                  refine pure_ (i := 59) (N := some 62) (v := ?_) (a' := ?_) #[true, true, true, true, true, true, true, true, true, true, true, true, true, true, true, true, true, true, true, true, true, true, true, true, true, true, true, true, true, true, true, true, true, true, true, true, true, true, true, true, true, true, true, true, true, true, true, true, true, true, true, true, true, true, true, true, true, true, true, true, false, false, false, false, false, false, false, false, false, false, false, false, false, false, false, false, false, false] rfl rfl (any_of HT_.out (by kernel_rfl)) (fun _ _ _ h => h) (Or.inl ⟨by rfl, ?_⟩) ?_ ?_
                  rotate_left
                  · intro w'
                    go_simp
                    with_reducible rfl
                  rotate_left
                  · simp only [Act.put, List.setIfInBounds_toArray, List.set_cons_zero, List.set_cons_succ, i64_w, i32_w]
                    rfl
                  refine pure_ (i := 60) (N := some 63) (v := ?_) (a' := ?_) #[true, true, true, true, true, true, true, true, true, true, true, true, true, true, true, true, true, true, true, true, true, true, true, true, true, true, true, true, true, true, true, true, true, true, true, true, true, true, true, true, true, true, true, true, true, true, true, true, true, true, true, true, true, true, true, true, true, true, true, true, true, false, false, false, false, false, false, false, false, false, false, false, false, false, false, false, false, false] rfl rfl (any_of HT_.out (by kernel_rfl)) (fun _ _ _ h => h) (Or.inl ⟨by rfl, ?_⟩) ?_ ?_
                  rotate_left
                  · intro w'
                    go_simp
                    with_reducible rfl
                  rotate_left
                  · simp only [Act.put, List.setIfInBounds_toArray, List.set_cons_zero, List.set_cons_succ, i64_w, i32_w]
                    rfl
                  refine pure_ (i := 63) (N := some 66) (v := ?_) (a' := ?_) #[true, true, true, true, true, true, true, true, true, true, true, true, true, true, true, true, true, true, true, true, true, true, true, true, true, true, true, true, true, true, true, true, true, true, true, true, true, true, true, true, true, true, true, true, true, true, true, true, true, true, true, true, true, true, true, true, true, true, true, true, true, false, false, true, false, false, false, false, false, false, false, false, false, false, false, false, false, false] rfl rfl (any_of HT_.out (by kernel_rfl)) (fun _ _ _ h => h) (Or.inl ⟨by rfl, ?_⟩) ?_ ?_
                  rotate_left
                  · intro w'
                    go_simp
                    with_reducible rfl
                  rotate_left
                  · simp only [Act.put, List.setIfInBounds_toArray, List.set_cons_zero, List.set_cons_succ, i64_w, i32_w]
                    rfl
                  refine take_ (i := 61) (N := some 64) (v := ?_) (a' := ?_) #[true, true, true, true, true, true, true, true, true, true, true, true, true, true, true, true, true, true, true, true, true, true, true, true, true, true, true, true, true, true, true, true, true, true, true, true, true, true, true, true, true, true, true, true, true, true, true, true, true, true, true, true, true, true, true, true, true, true, true, true, true, true, false, true, false, false, false, false, false, false, false, false, false, false, false, false, false, false] rfl rfl (take_ofW HT_.out HW_.out (by kernel_rfl)) (fun _ _ _ h => h) (Or.inl ⟨by rfl, ?_⟩) hHeld ?_ ?_
                  rotate_left
                  · rintro w' ⟨s0, s1, s2, s3, s4⟩
                    go_simp
                    with_reducible rfl
                  rotate_left
                  · simp only [Act.put, List.setIfInBounds_toArray, List.set_cons_zero, List.set_cons_succ, i64_w, i32_w]
                    rfl
                  refine take_ (i := 64) (N := some 67) (v := ?_) (a' := ?_) #[true, true, true, true, true, true, true, true, true, true, true, true, true, true, true, true, true, true, true, true, true, true, true, true, true, true, true, true, true, true, true, true, true, true, true, true, true, true, true, true, true, true, true, true, true, true, true, true, true, true, true, true, true, true, true, true, true, true, true, true, true, true, false, true, true, false, false, false, false, false, false, false, false, false, false, false, false, false] rfl rfl (take_ofW HT_.out HW_.out (by kernel_rfl)) (fun _ _ _ h => h) (Or.inl ⟨by rfl, ?_⟩) hHeld ?_ ?_
                  rotate_left
                  · rintro w' ⟨s0, s1, s2, s3, s4⟩
                    go_simp
                    with_reducible rfl
                  rotate_left
                  · simp only [Act.put, List.setIfInBounds_toArray, List.set_cons_zero, List.set_cons_succ, i64_w, i32_w]
                    rfl
                  refine one_ (i := 62) (N := some 65) #[true, true, true, true, true, true, true, true, true, true, true, true, true, true, true, true, true, true, true, true, true, true, true, true, true, true, true, true, true, true, true, true, true, true, true, true, true, true, true, true, true, true, true, true, true, true, true, true, true, true, true, true, true, true, true, true, true, true, true, true, true, true, true, true, true, false, false, false, false, false, false, false, false, false, false, false, false, false] rfl rfl (one_of HT_.out (by kernel_rfl)) (by decide) (fun K hK => ?_)
                  refine goes_ Tryd.func30 (by kernel_rfl) rfl #[.string a0_4] (by rfl) rfl rfl (by (try simp only [List.map_toArray, List.map_cons, List.map_nil]); first | done | rfl | (simp only [List.length_drop, List.length_take]; rfl)) ?_
                  with_reducible refine (value_OfText.calls a0_4 t295 t296 t297 t298 t299 _ A22.out).mono ?_
                  rintro e w42 ⟨rfl, hb⟩
                  refine ⟨_, rfl, ?_⟩
                  have n0_ := Aside0.mk (blk_below (g := gb249) (o := .cells #[.int .i64 a0_0, .int .i64 a0_1, .bool a0_2, .int .i64 a0_3, .string a0_4] 25 (0, 0)) (by (with_reducible repeat (first | refine blk_drewN ?_ _ | refine blk_drew ?_ | refine blk_alloc ?_ _)); exact BK249.out) hb)
                  have n1_ := Aside0.mk (below_step (by repeat (first | (with_reducible first | exact HB.out | apply below_alloc | apply pw_below_drewN | apply below_drew1 | refine below_set ?_ GE249.out) | exact HB.out)) hb)
                  clear BK249
                  clear HB
                  have BK249 := n0_
                  have HB := n1_
                  clear n0_ n1_
                  (try clear hb)
                  (try clear hb2)
                  (try clear hk)
                  (try clear hi)
                  refine hK.out _ _ ⟨(blk_cell BK249.out 0).trans rfl, (blk_cell BK249.out 1).trans rfl, (blk_cell BK249.out 2).trans rfl, (blk_cell BK249.out 3).trans rfl, (blk_cell BK249.out 4).trans rfl⟩ (fun hHeld => ?_)
                  clear hK K
                  refine norm_ (a' := ?_) ?_ ?_
                  rotate_left
                  · show Act.put _ (some 65) _ = _
                    simp only [Act.put, List.setIfInBounds_toArray, List.set_cons_zero, List.set_cons_succ, i64_w, i32_w]
                    rfl
                  refine one_ (i := 65) (N := some 68) #[true, true, true, true, true, true, true, true, true, true, true, true, true, true, true, true, true, true, true, true, true, true, true, true, true, true, true, true, true, true, true, true, true, true, true, true, true, true, true, true, true, true, true, true, true, true, true, true, true, true, true, true, true, true, true, true, true, true, true, true, true, true, true, true, true, true, false, false, false, false, false, false, false, false, false, false, false, false] rfl rfl (one_of HT_.out (by kernel_rfl)) (by decide) (fun K hK => ?_)
                  refine goes_ Tryd.func31 (by kernel_rfl) rfl #[.string a0_4] (by rfl) rfl rfl (by (try simp only [List.map_toArray, List.map_cons, List.map_nil]); first | done | rfl | (simp only [List.length_drop, List.length_take]; rfl)) ?_
                  with_reducible refine (colonnaderef02_OfText.calls a0_4 t300 t301 t302 t303 t304 _ A23.out).mono ?_
                  rintro e w43 ⟨rfl, hb⟩
                  refine ⟨_, rfl, ?_⟩
                  have n0_ := Aside0.mk (blk_below (g := gb249) (o := .cells #[.int .i64 a0_0, .int .i64 a0_1, .bool a0_2, .int .i64 a0_3, .string a0_4] 25 (0, 0)) (by (with_reducible repeat (first | refine blk_drewN ?_ _ | refine blk_drew ?_ | refine blk_alloc ?_ _)); exact BK249.out) hb)
                  have n1_ := Aside0.mk (below_step (by repeat (first | (with_reducible first | exact HB.out | apply below_alloc | apply pw_below_drewN | apply below_drew1 | refine below_set ?_ GE249.out) | exact HB.out)) hb)
                  clear BK249
                  clear HB
                  have BK249 := n0_
                  have HB := n1_
                  clear n0_ n1_
                  (try clear hb)
                  (try clear hb2)
                  (try clear hk)
                  (try clear hi)
                  refine hK.out _ _ ⟨(blk_cell BK249.out 0).trans rfl, (blk_cell BK249.out 1).trans rfl, (blk_cell BK249.out 2).trans rfl, (blk_cell BK249.out 3).trans rfl, (blk_cell BK249.out 4).trans rfl⟩ (fun hHeld => ?_)
                  clear hK K
                  refine norm_ (a' := ?_) ?_ ?_
                  rotate_left
                  · show Act.put _ (some 68) _ = _
                    simp only [Act.put, List.setIfInBounds_toArray, List.set_cons_zero, List.set_cons_succ, i64_w, i32_w]
                    rfl
                  refine pure_ (i := 66) (N := some 69) (v := ?_) (a' := ?_) #[true, true, true, true, true, true, true, true, true, true, true, true, true, true, true, true, true, true, true, true, true, true, true, true, true, true, true, true, true, true, true, true, true, true, true, true, true, true, true, true, true, true, true, true, true, true, true, true, true, true, true, true, true, true, true, true, true, true, true, true, true, true, true, true, true, true, true, false, false, false, false, false, false, false, false, false, false, false] rfl rfl (any_of HT_.out (by kernel_rfl)) (fun _ _ _ h => h) (Or.inl ⟨by rfl, ?_⟩) ?_ ?_
                  rotate_left
                  · intro w'
                    go_simp
                    with_reducible rfl
                  rotate_left
                  · simp only [Act.put, List.setIfInBounds_toArray, List.set_cons_zero, List.set_cons_succ, i64_w, i32_w]
                    rfl
                  refine pure_ (i := 67) (N := some 70) (v := ?_) (a' := ?_) #[true, true, true, true, true, true, true, true, true, true, true, true, true, true, true, true, true, true, true, true, true, true, true, true, true, true, true, true, true, true, true, true, true, true, true, true, true, true, true, true, true, true, true, true, true, true, true, true, true, true, true, true, true, true, true, true, true, true, true, true, true, true, true, true, true, true, true, true, false, false, false, false, false, false, false, false, false, false] rfl rfl (any_of HT_.out (by kernel_rfl)) (fun _ _ _ h => h) (Or.inl ⟨by rfl, ?_⟩) ?_ ?_
                  rotate_left
                  · intro w'
                    go_simp
                    with_reducible rfl
                  rotate_left
                  · simp only [Act.put, List.setIfInBounds_toArray, List.set_cons_zero, List.set_cons_succ, i64_w, i32_w]
                    rfl
                  refine pure_ (i := 68) (N := some 71) (v := ?_) (a' := ?_) #[true, true, true, true, true, true, true, true, true, true, true, true, true, true, true, true, true, true, true, true, true, true, true, true, true, true, true, true, true, true, true, true, true, true, true, true, true, true, true, true, true, true, true, true, true, true, true, true, true, true, true, true, true, true, true, true, true, true, true, true, true, true, true, true, true, true, true, true, true, false, false, false, false, false, false, false, false, false] rfl rfl (any_of HT_.out (by kernel_rfl)) (fun _ _ _ h => h) (Or.inl ⟨by rfl, ?_⟩) ?_ ?_
                  rotate_left
                  · intro w'
                    go_simp
                    with_reducible rfl
                  rotate_left
                  · simp only [Act.put, List.setIfInBounds_toArray, List.set_cons_zero, List.set_cons_succ, i64_w, i32_w]
                    rfl
                  refine pure_ (i := 69) (N := some 72) (v := ?_) (a' := ?_) #[true, true, true, true, true, true, true, true, true, true, true, true, true, true, true, true, true, true, true, true, true, true, true, true, true, true, true, true, true, true, true, true, true, true, true, true, true, true, true, true, true, true, true, true, true, true, true, true, true, true, true, true, true, true, true, true, true, true, true, true, true, true, true, true, true, true, true, true, true, true, false, false, false, false, false, false, false, false] rfl rfl (any_of HT_.out (by kernel_rfl)) (fun _ _ _ h => h) (Or.inl ⟨by rfl, ?_⟩) ?_ ?_
                  rotate_left
                  · intro w'
                    go_simp
                    with_reducible rfl
                  rotate_left
                  · simp only [Act.put, List.setIfInBounds_toArray, List.set_cons_zero, List.set_cons_succ, i64_w, i32_w]
                    rfl
                  refine pure_ (i := 72) (N := some 75) (v := ?_) (a' := ?_) #[true, true, true, true, true, true, true, true, true, true, true, true, true, true, true, true, true, true, true, true, true, true, true, true, true, true, true, true, true, true, true, true, true, true, true, true, true, true, true, true, true, true, true, true, true, true, true, true, true, true, true, true, true, true, true, true, true, true, true, true, true, true, true, true, true, true, true, true, true, true, false, false, true, false, false, false, false, false] rfl rfl (any_of HT_.out (by kernel_rfl)) (fun _ _ _ h => h) (Or.inl ⟨by rfl, ?_⟩) ?_ ?_
                  rotate_left
                  · intro w'
                    go_simp
                    with_reducible rfl
                  rotate_left
                  · simp only [Act.put, List.setIfInBounds_toArray, List.set_cons_zero, List.set_cons_succ, i64_w, i32_w]
                    rfl
                  refine take_ (i := 70) (N := some 73) (v := ?_) (a' := ?_) #[true, true, true, true, true, true, true, true, true, true, true, true, true, true, true, true, true, true, true, true, true, true, true, true, true, true, true, true, true, true, true, true, true, true, true, true, true, true, true, true, true, true, true, true, true, true, true, true, true, true, true, true, true, true, true, true, true, true, true, true, true, true, true, true, true, true, true, true, true, true, true, false, true, false, false, false, false, false] rfl rfl (take_ofW HT_.out HW_.out (by kernel_rfl)) (fun _ _ _ h => h) (Or.inl ⟨by rfl, ?_⟩) hHeld ?_ ?_
                  rotate_left
                  · rintro w' ⟨s0, s1, s2, s3, s4⟩
                    go_simp
                    with_reducible rfl
                  rotate_left
                  · simp only [Act.put, List.setIfInBounds_toArray, List.set_cons_zero, List.set_cons_succ, i64_w, i32_w]
                    rfl
                  refine take_ (i := 73) (N := some 76) (v := ?_) (a' := ?_) #[true, true, true, true, true, true, true, true, true, true, true, true, true, true, true, true, true, true, true, true, true, true, true, true, true, true, true, true, true, true, true, true, true, true, true, true, true, true, true, true, true, true, true, true, true, true, true, true, true, true, true, true, true, true, true, true, true, true, true, true, true, true, true, true, true, true, true, true, true, true, true, false, true, true, false, false, false, false] rfl rfl (take_ofW HT_.out HW_.out (by kernel_rfl)) (fun _ _ _ h => h) (Or.inl ⟨by rfl, ?_⟩) hHeld ?_ ?_
                  rotate_left
                  · rintro w' ⟨s0, s1, s2, s3, s4⟩
                    go_simp
                    with_reducible rfl
                  rotate_left
                  · simp only [Act.put, List.setIfInBounds_toArray, List.set_cons_zero, List.set_cons_succ, i64_w, i32_w]
                    rfl
                  refine one_ (i := 71) (N := some 74) #[true, true, true, true, true, true, true, true, true, true, true, true, true, true, true, true, true, true, true, true, true, true, true, true, true, true, true, true, true, true, true, true, true, true, true, true, true, true, true, true, true, true, true, true, true, true, true, true, true, true, true, true, true, true, true, true, true, true, true, true, true, true, true, true, true, true, true, true, true, true, true, true, true, true, false, false, false, false] rfl rfl (one_of HT_.out (by kernel_rfl)) (by decide) (fun K hK => ?_)
                  refine goes_ Tryd.func32 (by kernel_rfl) rfl #[.int .i64 a0_3] (by rfl) rfl rfl (by (try simp only [List.map_toArray, List.map_cons, List.map_nil]); first | done | rfl | (simp only [List.length_drop, List.length_take]; rfl)) ?_
                  with_reducible refine (value_OfDay.calls a0_3 t305 t306 t307 t308 t309 _ A25.out).mono ?_
                  rintro e w44 ⟨rfl, hb⟩
                  refine ⟨_, rfl, ?_⟩
                  have n0_ := Aside0.mk (blk_below (g := gb249) (o := .cells #[.int .i64 a0_0, .int .i64 a0_1, .bool a0_2, .int .i64 a0_3, .string a0_4] 25 (0, 0)) (by (with_reducible repeat (first | refine blk_drewN ?_ _ | refine blk_drew ?_ | refine blk_alloc ?_ _)); exact BK249.out) hb)
                  have n1_ := Aside0.mk (below_step (by repeat (first | (with_reducible first | exact HB.out | apply below_alloc | apply pw_below_drewN | apply below_drew1 | refine below_set ?_ GE249.out) | exact HB.out)) hb)
                  clear BK249
                  clear HB
                  have BK249 := n0_
                  have HB := n1_
                  clear n0_ n1_
                  (try clear hb)
                  (try clear hb2)
                  (try clear hk)
                  (try clear hi)
                  refine hK.out _ _ ⟨(blk_cell BK249.out 0).trans rfl, (blk_cell BK249.out 1).trans rfl, (blk_cell BK249.out 2).trans rfl, (blk_cell BK249.out 3).trans rfl, (blk_cell BK249.out 4).trans rfl⟩ (fun hHeld => ?_)
                  clear hK K
                  refine norm_ (a' := ?_) ?_ ?_
                  rotate_left
                  · show Act.put _ (some 74) _ = _
                    simp only [Act.put, List.setIfInBounds_toArray, List.set_cons_zero, List.set_cons_succ, i64_w, i32_w]
                    rfl
                  refine one_ (i := 74) (N := some 77) #[true, true, true, true, true, true, true, true, true, true, true, true, true, true, true, true, true, true, true, true, true, true, true, true, true, true, true, true, true, true, true, true, true, true, true, true, true, true, true, true, true, true, true, true, true, true, true, true, true, true, true, true, true, true, true, true, true, true, true, true, true, true, true, true, true, true, true, true, true, true, true, true, true, true, true, false, false, false] rfl rfl (one_of HT_.out (by kernel_rfl)) (by decide) (fun K hK => ?_)
                  refine goes_ Tryd.func33 (by kernel_rfl) rfl #[.int .i64 a0_3] (by rfl) rfl rfl (by (try simp only [List.map_toArray, List.map_cons, List.map_nil]); first | done | rfl | (simp only [List.length_drop, List.length_take]; rfl)) ?_
                  with_reducible refine (colonnaderef02_OfDay.calls a0_3 t310 t311 t312 t313 t314 _ A26.out).mono ?_
                  rintro e w45 ⟨rfl, hb⟩
                  refine ⟨_, rfl, ?_⟩
                  have n0_ := Aside0.mk (blk_below (g := gb249) (o := .cells #[.int .i64 a0_0, .int .i64 a0_1, .bool a0_2, .int .i64 a0_3, .string a0_4] 25 (0, 0)) (by (with_reducible repeat (first | refine blk_drewN ?_ _ | refine blk_drew ?_ | refine blk_alloc ?_ _)); exact BK249.out) hb)
                  have n1_ := Aside0.mk (below_step (by repeat (first | (with_reducible first | exact HB.out | apply below_alloc | apply pw_below_drewN | apply below_drew1 | refine below_set ?_ GE249.out) | exact HB.out)) hb)
                  clear BK249
                  clear HB
                  have BK249 := n0_
                  have HB := n1_
                  clear n0_ n1_
                  (try clear hb)
                  (try clear hb2)
                  (try clear hk)
                  (try clear hi)
                  refine hK.out _ _ ⟨(blk_cell BK249.out 0).trans rfl, (blk_cell BK249.out 1).trans rfl, (blk_cell BK249.out 2).trans rfl, (blk_cell BK249.out 3).trans rfl, (blk_cell BK249.out 4).trans rfl⟩ (fun hHeld => ?_)
                  clear hK K
                  refine norm_ (a' := ?_) ?_ ?_
                  rotate_left
                  · show Act.put _ (some 77) _ = _
                    simp only [Act.put, List.setIfInBounds_toArray, List.set_cons_zero, List.set_cons_succ, i64_w, i32_w]
                    rfl
                  refine pure_ (i := 75) (N := some 78) (v := ?_) (a' := ?_) #[true, true, true, true, true, true, true, true, true, true, true, true, true, true, true, true, true, true, true, true, true, true, true, true, true, true, true, true, true, true, true, true, true, true, true, true, true, true, true, true, true, true, true, true, true, true, true, true, true, true, true, true, true, true, true, true, true, true, true, true, true, true, true, true, true, true, true, true, true, true, true, true, true, true, true, true, false, false] rfl rfl (any_of HT_.out (by kernel_rfl)) (fun _ _ _ h => h) (Or.inl ⟨by rfl, ?_⟩) ?_ ?_
                  rotate_left
                  · intro w'
                    go_simp
                    with_reducible rfl
                  rotate_left
                  · simp only [Act.put, List.setIfInBounds_toArray, List.set_cons_zero, List.set_cons_succ, i64_w, i32_w]
                    rfl
                  refine pure_ (i := 76) (N := some 79) (v := ?_) (a' := ?_) #[true, true, true, true, true, true, true, true, true, true, true, true, true, true, true, true, true, true, true, true, true, true, true, true, true, true, true, true, true, true, true, true, true, true, true, true, true, true, true, true, true, true, true, true, true, true, true, true, true, true, true, true, true, true, true, true, true, true, true, true, true, true, true, true, true, true, true, true, true, true, true, true, true, true, true, true, true, false] rfl rfl (any_of HT_.out (by kernel_rfl)) (fun _ _ _ h => h) (Or.inl ⟨by rfl, ?_⟩) ?_ ?_
                  rotate_left
                  · intro w'
                    go_simp
                    with_reducible rfl
                  rotate_left
                  · simp only [Act.put, List.setIfInBounds_toArray, List.set_cons_zero, List.set_cons_succ, i64_w, i32_w]
                    rfl
                  refine pure_ (i := 77) (N := some 2) (v := ?_) (a' := ?_) #[true, true, true, true, true, true, true, true, true, true, true, true, true, true, true, true, true, true, true, true, true, true, true, true, true, true, true, true, true, true, true, true, true, true, true, true, true, true, true, true, true, true, true, true, true, true, true, true, true, true, true, true, true, true, true, true, true, true, true, true, true, true, true, true, true, true, true, true, true, true, true, true, true, true, true, true, true, true] rfl rfl (any_of HT_.out (by kernel_rfl)) (fun _ _ _ h => h) (Or.inl ⟨by rfl, ?_⟩) ?_ ?_
                  rotate_left
                  · intro w'
                    go_simp
                    with_reducible rfl
                  rotate_left
                  · simp only [Act.put, List.setIfInBounds_toArray, List.set_cons_zero, List.set_cons_succ, i64_w, i32_w]
                    rfl
                  refine done_ (done_of HT_.out (by kernel_rfl)) ?_
                  try go_wp2
                  go_ret
                  exact ⟨by first | rfl | (simp [errW_none, errW_some] <;> rfl) | (simp [*, errW_none, errW_some] <;> rfl), by repeat (first | (with_reducible first | exact HB.out | apply below_alloc | apply pw_below_drewN | apply below_drew1 | refine below_set ?_ GE249.out) | exact HB.out)⟩
                · rw [if_neg c24] at H
                  have c24b0 : ((t295 == t300 && (t296 == t301)) && (t297 == t302 && (t298 == t303 && (t299.toList == t304.toList)))) = false := by simpa using c24
                  clear c24
                  exact absurd H (by simp)
              · rw [if_neg c21] at H
                have c21b0 : ((t285 == t290 && (t286 == t291)) && (t287 == t292 && (t288 == t293 && (t289.toList == t294.toList)))) = false := by simpa using c21
                clear c21
                exact absurd H (by simp)
            · rw [if_neg c18] at H
              have c18b0 : ((t275 == t280 && (t276 == t281)) && (t277 == t282 && (t278 == t283 && (t279.toList == t284.toList)))) = false := by simpa using c18
              clear c18
              exact absurd H (by simp)
          · rw [if_neg c15] at H
            have c15b0 : ((t265 == t270 && (t266 == t271)) && (t267 == t272 && (t268 == t273 && (t269.toList == t274.toList)))) = false := by simpa using c15
            clear c15
            exact absurd H (by simp)
        · rw [if_neg c12] at H
          have c12b0 : ((t255 == t260 && (t256 == t261)) && (t257 == t262 && (t258 == t263 && (t259.toList == t264.toList)))) = false := by simpa using c12
          clear c12
          exact absurd H (by simp)
      · rw [if_neg c9] at H
        have c9b0 : (t253 == t254) = false := beq_eq_false_iff_ne.mpr c9
        have c9b1 : (t253 != t254) = true := bne_iff_ne.mpr c9
        exact absurd H (by simp)
    · rw [if_neg c6] at H
      have c6b0 : (t251 == t252) = false := beq_eq_false_iff_ne.mpr c6
      have c6b1 : (t251 != t252) = true := bne_iff_ne.mpr c6
      exact absurd H (by simp)
  · replace c3 := Bool.eq_false_iff.mpr c3
    subst c3
    have H1 : (none) = some r := by rw [if_neg (show ¬ (false = true) by decide)] at H; exact H
    clear H
    have H := H1
    clear H1
    exact absurd H (by simp)

end Go.Proofs.YtjpgjggbanpegaaDoor.C
