/- PRINTED BY A PROGRAM OF THIS SESSION (px.py, over the kit's print): Lean functions with the answers of Go functions of the given program, and proofs that the Go code comes to these answers; each under the conditions that its theorem states. -/
import Derived.Test.YtgkkbbpcdjogoaaGreatDoorT0
import Derived.Test.YtgkkbbpcdjogoaaGreatDoorT1
import Derived.Test.YtgkkbbpcdjogoaaGreatDoorT4
import Derived.Test.YtgkkbbpcdjogoaaGreatDoorT6
import Derived.Test.YtgkkbbpcdjogoaaGreatDoorT7
import Derived.Test.YtgkkbbpcdjogoaaGreatDoorT10
import Derived.Test.YtgkkbbpcdjogoaaGreatDoorT13
import Derived.Test.YtgkkbbpcdjogoaaGreatDoorT15
namespace Go.Proofs.YtgkkbbpcdjogoaaGreatDoor.T
open Go.RowKit Go.Proofs.YtgkkbbpcdjogoaaGreatDoorW.PrintWords Go.Proofs.YtgkkbbpcdjogoaaGreatDoorW.PrintLast Go.Proofs.YtgkkbbpcdjogoaaGreatDoorW.PrintMore
attribute [local go_sem] max2_int min2_int max_two min_two max_three min_three max_four min_four   -- for this text's walks alone
set_option linter.unusedVariables false
set_option linter.unusedSimpArgs false

/-! ### colonnadelaw01_NumReads: function 3 -/
def colonnadelaw01_NumReads.f (k : Nat) (a0 : ByteArray) : Option (Bool) := (num_ParseInt.f a0).bind fun bt147 => ((colonnaderef01_ParseInt.f k a0).bind fun bt149 => ((num_ParseDec.f a0).bind fun bt151 => ((colonnaderef01_ParseDec.f k a0).bind fun bt154 => ((num_ParseDay.f k a0).bind fun bt157 => ((colonnaderef01_ParseDay.f k a0).bind fun bt159 => ((colonnadelaw01_begun.f k).bind fun t161 => (if t161 = true then (if bt147.1 = bt149.1 then (if bt147.2 = bt149.2 then (if bt151.1 = bt154.1 then (if bt151.2.1 = bt154.2.1 then (if bt151.2.2 = bt154.2.2 then (if bt157.1 = bt159.1 then (some (bt157.2 == bt159.2)) else (none)) else (none)) else (none)) else (none)) else (none)) else (none)) else (none))))))))
theorem colonnadelaw01_NumReads.mono : ∀ a0 k, LeO (colonnadelaw01_NumReads.f k a0) (colonnadelaw01_NumReads.f (k + 1) a0) := by
  intro a0 k
  unfold colonnadelaw01_NumReads.f
  repeat' first
      | (with_reducible exact colonnadelaw01_begun.mono _)
      | (with_reducible exact colonnaderef01_ParseDay.mono _ _)
      | (with_reducible exact colonnaderef01_ParseDec.mono _ _)
      | (with_reducible exact colonnaderef01_ParseInt.mono _ _)
      | (with_reducible exact num_ParseDay.mono _ _)
      | (with_reducible exact LeO.refl _)
      | (with_reducible exact LeO.none _)
      | (with_reducible refine LeO.ite ?_ ?_)
      | (with_reducible refine LeO.bind ?_ (fun _ => ?_))
      | exact colonnadelaw01_begun.mono _
      | exact colonnaderef01_ParseDay.mono _ _
      | exact colonnaderef01_ParseDec.mono _ _
      | exact colonnaderef01_ParseInt.mono _ _
      | exact num_ParseDay.mono _ _
      | exact LeO.none _
      | refine LeO.ite ?_ ?_
      | refine LeO.bind ?_ (fun _ => ?_)
set_option maxHeartbeats 8000000 in
set_option maxRecDepth 100000 in
theorem colonnadelaw01_NumReads.calls (k : Nat) (a0 : ByteArray) (r : Bool) (w : World) (h : colonnadelaw01_NumReads.f k a0 = some r) (hG : Gl w) :
    Calls Tryz.prog 3 #[.string a0] w fun e w' => e = .returned (.bool r) ∧ Below w.heap.size w w' := by
  have HG := Aside0.mk hG
  clear hG
  have HB := Aside0.mk (Below.refl w.heap.size w)
  have H : ((num_ParseInt.f a0).bind fun bt147 => ((colonnaderef01_ParseInt.f k a0).bind fun bt149 => ((num_ParseDec.f a0).bind fun bt151 => ((colonnaderef01_ParseDec.f k a0).bind fun bt154 => ((num_ParseDay.f k a0).bind fun bt157 => ((colonnaderef01_ParseDay.f k a0).bind fun bt159 => ((colonnadelaw01_begun.f k).bind fun t161 => (if t161 = true then (if bt147.1 = bt149.1 then (if bt147.2 = bt149.2 then (if bt151.1 = bt154.1 then (if bt151.2.1 = bt154.2.1 then (if bt151.2.2 = bt154.2.2 then (if bt157.1 = bt159.1 then (some (bt157.2 == bt159.2)) else (none)) else (none)) else (none)) else (none)) else (none)) else (none)) else (none))))))))) = some r := h
  clear h
  replace H := Option.bind_eq_some_iff.mp H
  obtain ⟨⟨t147, t148⟩, A20, H⟩ := H
  replace H : ((colonnaderef01_ParseInt.f k a0).bind fun bt149 => ((num_ParseDec.f a0).bind fun bt151 => ((colonnaderef01_ParseDec.f k a0).bind fun bt154 => ((num_ParseDay.f k a0).bind fun bt157 => ((colonnaderef01_ParseDay.f k a0).bind fun bt159 => ((colonnadelaw01_begun.f k).bind fun t161 => (if t161 = true then (if t147 = bt149.1 then (if t148 = bt149.2 then (if bt151.1 = bt154.1 then (if bt151.2.1 = bt154.2.1 then (if bt151.2.2 = bt154.2.2 then (if bt157.1 = bt159.1 then (some (bt157.2 == bt159.2)) else (none)) else (none)) else (none)) else (none)) else (none)) else (none)) else (none)))))))) = some r := H
  have A2 := Aside0.mk A20
  clear A20
  replace H := Option.bind_eq_some_iff.mp H
  obtain ⟨⟨t149, t150⟩, A30, H⟩ := H
  replace H : ((num_ParseDec.f a0).bind fun bt151 => ((colonnaderef01_ParseDec.f k a0).bind fun bt154 => ((num_ParseDay.f k a0).bind fun bt157 => ((colonnaderef01_ParseDay.f k a0).bind fun bt159 => ((colonnadelaw01_begun.f k).bind fun t161 => (if t161 = true then (if t147 = t149 then (if t148 = t150 then (if bt151.1 = bt154.1 then (if bt151.2.1 = bt154.2.1 then (if bt151.2.2 = bt154.2.2 then (if bt157.1 = bt159.1 then (some (bt157.2 == bt159.2)) else (none)) else (none)) else (none)) else (none)) else (none)) else (none)) else (none))))))) = some r := H
  have A3 := Aside0.mk A30
  clear A30
  replace H := Option.bind_eq_some_iff.mp H
  obtain ⟨⟨t151, t152, t153⟩, A40, H⟩ := H
  replace H : ((colonnaderef01_ParseDec.f k a0).bind fun bt154 => ((num_ParseDay.f k a0).bind fun bt157 => ((colonnaderef01_ParseDay.f k a0).bind fun bt159 => ((colonnadelaw01_begun.f k).bind fun t161 => (if t161 = true then (if t147 = t149 then (if t148 = t150 then (if t151 = bt154.1 then (if t152 = bt154.2.1 then (if t153 = bt154.2.2 then (if bt157.1 = bt159.1 then (some (bt157.2 == bt159.2)) else (none)) else (none)) else (none)) else (none)) else (none)) else (none)) else (none)))))) = some r := H
  have A4 := Aside0.mk A40
  clear A40
  replace H := Option.bind_eq_some_iff.mp H
  obtain ⟨⟨t154, t155, t156⟩, A50, H⟩ := H
  replace H : ((num_ParseDay.f k a0).bind fun bt157 => ((colonnaderef01_ParseDay.f k a0).bind fun bt159 => ((colonnadelaw01_begun.f k).bind fun t161 => (if t161 = true then (if t147 = t149 then (if t148 = t150 then (if t151 = t154 then (if t152 = t155 then (if t153 = t156 then (if bt157.1 = bt159.1 then (some (bt157.2 == bt159.2)) else (none)) else (none)) else (none)) else (none)) else (none)) else (none)) else (none))))) = some r := H
  have A5 := Aside0.mk A50
  clear A50
  replace H := Option.bind_eq_some_iff.mp H
  obtain ⟨⟨t157, t158⟩, A60, H⟩ := H
  replace H : ((colonnaderef01_ParseDay.f k a0).bind fun bt159 => ((colonnadelaw01_begun.f k).bind fun t161 => (if t161 = true then (if t147 = t149 then (if t148 = t150 then (if t151 = t154 then (if t152 = t155 then (if t153 = t156 then (if t157 = bt159.1 then (some (t158 == bt159.2)) else (none)) else (none)) else (none)) else (none)) else (none)) else (none)) else (none)))) = some r := H
  have A6 := Aside0.mk A60
  clear A60
  replace H := Option.bind_eq_some_iff.mp H
  obtain ⟨⟨t159, t160⟩, A70, H⟩ := H
  replace H : ((colonnadelaw01_begun.f k).bind fun t161 => (if t161 = true then (if t147 = t149 then (if t148 = t150 then (if t151 = t154 then (if t152 = t155 then (if t153 = t156 then (if t157 = t159 then (some (t158 == t160)) else (none)) else (none)) else (none)) else (none)) else (none)) else (none)) else (none))) = some r := H
  have A7 := Aside0.mk A70
  clear A70
  replace H := Option.bind_eq_some_iff.mp H
  obtain ⟨t161, A80, H⟩ := H
  replace H : (if t161 = true then (if t147 = t149 then (if t148 = t150 then (if t151 = t154 then (if t152 = t155 then (if t153 = t156 then (if t157 = t159 then (some (t158 == t160)) else (none)) else (none)) else (none)) else (none)) else (none)) else (none)) else (none)) = some r := H
  have A8 := Aside0.mk A80
  clear A80
  by_cases c9 : t161 = true
  · subst c9
    have H1 : (if t147 = t149 then (if t148 = t150 then (if t151 = t154 then (if t152 = t155 then (if t153 = t156 then (if t157 = t159 then (some (t158 == t160)) else (none)) else (none)) else (none)) else (none)) else (none)) else (none)) = some r := by rw [if_pos rfl] at H; exact H
    clear H
    have H := H1
    clear H1
    by_cases c10 : t147 = t149
    · rw [if_pos c10] at H
      have c10b0 : (t147 == t149) = true := beq_iff_eq.mpr c10
      have c10b1 : (t147 != t149) = false := bne_eq_false_iff_eq.mpr c10
      clear c10
      by_cases c11 : t148 = t150
      · rw [if_pos c11] at H
        have c11b0 : (t148 == t150) = true := beq_iff_eq.mpr c11
        have c11b1 : (t148 != t150) = false := bne_eq_false_iff_eq.mpr c11
        clear c11
        by_cases c12 : t151 = t154
        · rw [if_pos c12] at H
          have c12b0 : (t151 == t154) = true := beq_iff_eq.mpr c12
          have c12b1 : (t151 != t154) = false := bne_eq_false_iff_eq.mpr c12
          clear c12
          by_cases c13 : t152 = t155
          · rw [if_pos c13] at H
            have c13b0 : (t152 == t155) = true := beq_iff_eq.mpr c13
            have c13b1 : (t152 != t155) = false := bne_eq_false_iff_eq.mpr c13
            clear c13
            by_cases c14 : t153 = t156
            · rw [if_pos c14] at H
              have c14b0 : (t153 == t156) = true := beq_iff_eq.mpr c14
              have c14b1 : (t153 != t156) = false := bne_eq_false_iff_eq.mpr c14
              clear c14
              by_cases c15 : t157 = t159
              · rw [if_pos c15] at H
                have c15b0 : (t157 == t159) = true := beq_iff_eq.mpr c15
                have c15b1 : (t157 != t159) = false := bne_eq_false_iff_eq.mpr c15
                clear c15
                obtain rfl := Option.some.inj H
                go_enter Tryz.func3, Tryz.ntmps3
                go_wp2_with (first | ((with_reducible refine gate_callee (f := 4) rfl ?_); refine goesL_ (some 19) rfl rfl Tryz.func4 (by kernel_rfl) rfl #[.string a0] rfl (by (try simp only [List.map_toArray, List.map_cons, List.map_nil]); first | done | rfl | (simp only [List.length_drop, List.length_take]; rfl)) ?_; (with_reducible refine (num_ParseInt.calls a0 t147 t148 _ A2.out (Gl.of HG.out (by repeat (first | exact HB.out | apply below_alloc | apply pw_below_drewN | apply below_drew1)))).mono ?_); rintro e w16 ⟨rfl, hb⟩; refine ⟨_, rfl, ?_⟩; have n0_ := Aside0.mk (below_step (by repeat (first | (with_reducible first | exact HB.out | apply below_alloc | apply pw_below_drewN | apply below_drew1) | exact HB.out)) hb); clear HB; have HB := n0_; clear n0_; (try clear hb); (try clear hb2); (try clear hk); (try clear hi)) | ((with_reducible refine gate_callee (f := 5) rfl ?_); refine goesL_ (some 24) rfl rfl Tryz.func5 (by kernel_rfl) rfl #[.string a0] rfl (by (try simp only [List.map_toArray, List.map_cons, List.map_nil]); first | done | rfl | (simp only [List.length_drop, List.length_take]; rfl)) ?_; (with_reducible refine (colonnaderef01_ParseInt.calls k a0 t149 t150 _ A3.out).mono ?_); rintro e w' ⟨rfl, ⟨nd, rfl⟩⟩; refine ⟨_, rfl, ?_⟩) | ((with_reducible refine gate_callee (f := 6) rfl ?_); refine goesL_ (some 29) rfl rfl Tryz.func6 (by kernel_rfl) rfl #[.string a0] rfl (by (try simp only [List.map_toArray, List.map_cons, List.map_nil]); first | done | rfl | (simp only [List.length_drop, List.length_take]; rfl)) ?_; (with_reducible refine (num_ParseDec.calls a0 t151 t152 t153 _ A4.out (Gl.of HG.out (by repeat (first | exact HB.out | apply below_alloc | apply pw_below_drewN | apply below_drew1)))).mono ?_); rintro e w17 ⟨rfl, hb⟩; refine ⟨_, rfl, ?_⟩; have n0_ := Aside0.mk (below_step (by repeat (first | (with_reducible first | exact HB.out | apply below_alloc | apply pw_below_drewN | apply below_drew1) | exact HB.out)) hb); clear HB; have HB := n0_; clear n0_; (try clear hb); (try clear hb2); (try clear hk); (try clear hi)) | ((with_reducible refine gate_callee (f := 7) rfl ?_); refine goesL_ (some 35) rfl rfl Tryz.func7 (by kernel_rfl) rfl #[.string a0] rfl (by (try simp only [List.map_toArray, List.map_cons, List.map_nil]); first | done | rfl | (simp only [List.length_drop, List.length_take]; rfl)) ?_; (with_reducible refine (colonnaderef01_ParseDec.calls k a0 t154 t155 t156 _ A5.out).mono ?_); rintro e w' ⟨rfl, ⟨nd, rfl⟩⟩; refine ⟨_, rfl, ?_⟩) | ((with_reducible refine gate_callee (f := 8) rfl ?_); refine goesL_ (some 41) rfl rfl Tryz.func8 (by kernel_rfl) rfl #[.string a0] rfl (by (try simp only [List.map_toArray, List.map_cons, List.map_nil]); first | done | rfl | (simp only [List.length_drop, List.length_take]; rfl)) ?_; (with_reducible refine (num_ParseDay.calls k a0 t157 t158 _ A6.out).mono ?_); rintro e w18 ⟨rfl, hb⟩; refine ⟨_, rfl, ?_⟩; have n0_ := Aside0.mk (below_step (by repeat (first | (with_reducible first | exact HB.out | apply below_alloc | apply pw_below_drewN | apply below_drew1) | exact HB.out)) hb); clear HB; have HB := n0_; clear n0_; (try clear hb); (try clear hb2); (try clear hk); (try clear hi)) | ((with_reducible refine gate_callee (f := 9) rfl ?_); refine goesL_ (some 46) rfl rfl Tryz.func9 (by kernel_rfl) rfl #[.string a0] rfl (by (try simp only [List.map_toArray, List.map_cons, List.map_nil]); first | done | rfl | (simp only [List.length_drop, List.length_take]; rfl)) ?_; (with_reducible refine (colonnaderef01_ParseDay.calls k a0 t159 t160 _ A7.out).mono ?_); rintro e w' ⟨rfl, ⟨nd, rfl⟩⟩; refine ⟨_, rfl, ?_⟩) | ((with_reducible refine gate_callee (f := 10) rfl ?_); refine goesL_ (some 49) rfl rfl Tryz.func10 (by kernel_rfl) rfl #[] rfl (by (try simp only [List.map_toArray, List.map_cons, List.map_nil]); first | done | rfl | (simp only [List.length_drop, List.length_take]; rfl)) ?_; (with_reducible refine (colonnadelaw01_begun.calls k  true _ A8.out (Gl.of HG.out (by repeat (first | exact HB.out | apply below_alloc | apply pw_below_drewN | apply below_drew1)))).mono ?_); rintro e w19 ⟨rfl, hb⟩; refine ⟨_, rfl, ?_⟩; have n0_ := Aside0.mk (below_step (by repeat (first | (with_reducible first | exact HB.out | apply below_alloc | apply pw_below_drewN | apply below_drew1) | exact HB.out)) hb); clear HB; have HB := n0_; clear n0_; (try clear hb); (try clear hb2); (try clear hk); (try clear hi)))
                go_ret
                exact ⟨by first | rfl | (simp [errW_none, errW_some] <;> rfl) | (simp [*, errW_none, errW_some] <;> rfl), by repeat (first | (with_reducible first | exact HB.out | apply below_alloc | apply pw_below_drewN | apply below_drew1) | exact HB.out)⟩
              · rw [if_neg c15] at H
                exact absurd H (by simp)
            · rw [if_neg c14] at H
              exact absurd H (by simp)
          · rw [if_neg c13] at H
            exact absurd H (by simp)
        · rw [if_neg c12] at H
          exact absurd H (by simp)
      · rw [if_neg c11] at H
        exact absurd H (by simp)
    · rw [if_neg c10] at H
      exact absurd H (by simp)
  · replace c9 := Bool.eq_false_iff.mpr c9
    subst c9
    have H1 : (none) = some r := by rw [if_neg (show ¬ (false = true) by decide)] at H; exact H
    clear H
    have H := H1
    clear H1
    exact absurd H (by simp)

end Go.Proofs.YtgkkbbpcdjogoaaGreatDoor.T
