/- the reference's Reader: Bytes, Int, Flag. -/
import Derived.Test.YtmeopdjdjmjngaaGreatDoorRefJ11
set_option linter.unusedVariables false
set_option linter.unusedSimpArgs false
namespace Go.Proofs.YtmeopdjdjmjngaaGreatDoor.I
open Go.RowKit Go.Lib Go.Proofs.YtmeopdjdjmjngaaGreatDoorW.PrintWords Go.Proofs.YtmeopdjdjmjngaaGreatDoorW.PrintLast Go.Proofs.YtmeopdjdjmjngaaGreatDoorW.PrintMore Go.Proofs.YtmeopdjdjmjngaaGreatDoor.Cod
/-- what the reference's Reader holds -/
def RS (W : World) (b g : Nat) (ys : List Int) : Prop := RdOk ys ∧ ys.length ≤ 140737488355327 ∧ (g < b ∧ b ≤ W.heap.size) ∧ ∃ A c, W.heap[g]? = some (.cells #[.slice A ys.length c] 108 (0, 0)) ∧ ys.length ≤ c ∧ RowAt W A ys ∧ ∀ ad, A = some ad → 0 < ys.length → ad.block < b ∧ ad.block ≠ g
theorem RowAt.only' {S : Nat → Prop} {W W1 : World} {A : Option Addr} {ys : List Int} (h : RowAt W A ys) (ho : Only S W W1) (hs : ∀ ad, A = some ad → 0 < ys.length → ¬ S ad.block) : RowAt W1 A ys := fun i hi => by
  obtain ⟨ad, e, hc⟩ := h i hi
  have hl := cell_lt hc
  rw [Cod.add_block] at hl
  exact ⟨ad, e, cell_heap hc (by rw [Cod.add_block]; exact ho.block _ hl (hs ad e (by omega)))⟩
theorem RS.only {S : Nat → Prop} {W W1 : World} {b g : Nat} {ys : List Int} (h : RS W b g ys) (ho : Only S W W1) (hs : ∀ k, k < b → ¬ S k) : RS W1 b g ys := by
  obtain ⟨h1, h2, ⟨hg, hb⟩, A, c, h3, h4, h5, h6⟩ := h
  exact ⟨h1, h2, ⟨hg, Nat.le_trans hb ho.size⟩, A, c, (ho.block g (blk_lt h3) (hs g hg)).trans h3, h4, RowAt.only' h5 ho (fun ad e hp => hs _ (h6 ad e hp).1), h6⟩
theorem RS.below {W W1 : World} {b g : Nat} {ys : List Int} (h : RS W b g ys) (hb : Below W.heap.size W W1) : RS W1 b g ys := h.only (S := fun _ => False) (Only.of_below hb) (fun _ _ q => q)
theorem RS.lt {W : World} {b g : Nat} {ys : List Int} (h : RS W b g ys) : g < b ∧ b ≤ W.heap.size := h.2.2.1
theorem one_facts {W : World} {g : Nat} {x : Value} {t : TypeId} (h : W.heap[g]? = some (.cells #[x] t (0, 0))) : W.cell? ⟨g, 0, none⟩ = some x ∧ ∀ j, W.frozen? ⟨g, j, none⟩ = false :=
  ⟨by simp [World.cell?, h], fun j => by simp [World.frozen?, h]⟩
theorem RS.setk {W w1 : World} {b g kn c : Nat} {A : Option Addr} {ys : List Int} (hR : RS W b g ys) (h3 : W.heap[g]? = some (.cells #[.slice A ys.length c] 108 (0, 0))) (ho : Below W.heap.size W w1) (hk : kn ≤ ys.length) :
    RS (w1.setCell ⟨g, 0, none⟩ (.slice (if c = kn then A else A.map (·.add kn)) (ys.length - kn) (c - kn))) b g (ys.drop kn) ∧ Only (fun j => j = g) W (w1.setCell ⟨g, 0, none⟩ (.slice (if c = kn then A else A.map (·.add kn)) (ys.length - kn) (c - kn))) := by
  obtain ⟨r1, r2, ⟨hg, hb⟩, A', c', q3, r4, r5, r7⟩ := hR
  rw [h3] at q3
  obtain ⟨rfl, rfl⟩ : A = A' ∧ c = c' := by
    injection q3 with q3
    injection q3 with q3
    have := congrArg (fun x : Array Value => x[0]?) q3
    simp at this
    exact this
  have hw1 : w1.heap[g]? = some (.cells #[.slice A ys.length c] 108 (0, 0)) := (ho.block g (blk_lt h3)).trans h3
  have hO : Only (fun j => j = g) W (w1.setCell ⟨g, 0, none⟩ (.slice (if c = kn then A else A.map (·.add kn)) (ys.length - kn) (c - kn))) := (Only.of_below (S := fun j => j = g) ho).setCell g 0 rfl _
  have hblk : ∀ ad', (if c = kn then A else A.map (·.add kn)) = some ad' → ∃ ad, A = some ad ∧ ad'.block = ad.block := fun ad' e => by
    split at e
    · exact ⟨ad', e, rfl⟩
    · cases A with
      | none => cases e
      | some ad => exact ⟨ad, rfl, by rw [← Option.some.inj e]; exact Cod.add_block ad kn⟩
  refine ⟨⟨r1.drop kn, by rw [List.length_drop]; omega, ⟨hg, Nat.le_trans hb hO.size⟩, _, _, by rw [List.length_drop]; exact blk_set hw1 0 _, by rw [List.length_drop]; omega, ?_, ?_⟩, hO⟩
  · have h := r5.drop kn c r4
    rw [Nat.mul_one] at h
    refine RowAt.only' h hO (fun ad' e hp q => ?_)
    obtain ⟨ad, ea, eb⟩ := hblk ad' e
    rw [List.length_drop] at hp
    exact (r7 ad ea (by omega)).2 (eb.symm.trans q)
  · intro ad' e hp
    obtain ⟨ad, ea, eb⟩ := hblk ad' e
    rw [List.length_drop] at hp
    rw [eb]
    exact r7 ad ea (by omega)
def I3 (W : World) (b g : Nat) (ys : List Int) (e : Ending) (w' : World) : Prop := ∃ (n f : Int) (ys' : List Int), e = .returned (.tuple #[.int .i64 n, .int .i64 f]) ∧ RS w' b g ys' ∧ Only (fun j => j = g) W w' ∧ ∀ x r, ys = x :: r → 128 ≤ x → x ≤ 247 → n = x - 128 ∧ f = 0 ∧ ys' = r
def F3 (W : World) (b g : Nat) (ys : List Int) (e : Ending) (w' : World) : Prop := ∃ (n : Bool) (f : Int) (ys' : List Int), e = .returned (.tuple #[.bool n, .int .i64 f]) ∧ RS w' b g ys' ∧ Only (fun j => j = g) W w' ∧ ∀ x r, ys = x :: r → (x = 128 ∨ x = 129) → n = decide (x = 129) ∧ f = 0 ∧ ys' = r
def B3 (W : World) (b g : Nat) (ys : List Int) (e : Ending) (w' : World) : Prop := ∃ (A' : Option Addr) (c' : Nat) (out : List Int) (f : Int) (ys' : List Int), e = .returned (.tuple #[.slice A' out.length c', .int .i64 f]) ∧ RowAt w' A' out ∧ (∀ ad, A' = some ad → ad.block ≠ g) ∧ RdOk out ∧ out.length ≤ ys.length ∧ RS w' b g ys' ∧ Only (fun j => j = g) W w' ∧ ∀ (s0 : ByteArray) (r : List Int), NoZ s0 → ys = sb s0 ++ [0, 0] ++ r → out = sb s0 ∧ f = 0 ∧ ys' = r
set_option maxHeartbeats 4000000 in
set_option maxRecDepth 100000 in
theorem r3int_calls {W : World} {b g : Nat} {ys : List Int} (hR : RS W b g ys) :
    Calls Tryz.prog 78 #[.pointer (some ⟨g, 0, none⟩)] W (I3 W b g ys) := by
  have HR := Aside0.mk hR
  obtain ⟨r1, r2, ⟨hg, hb⟩, A, c, r3, r4, r5, r7⟩ := hR
  obtain ⟨b0, bf⟩ := one_facts r3
  have HK := Aside0.mk r3
  have PI := Aside0.mk (fun (W1 : World) (hb : Below W.heap.size W W1) => pi_calls A c ys W1 (r5.below hb) r1 (by omega) r4)
  have hu108 := Tryz.underlying108
  clear r1 r3 r5 r7
  go_enter Tryz.func78, Tryz.ntmps78
  go_wp2_with (go_at_call 121; refine (PI.out _ (by first | exact Below.refl _ _ | exact below_drew1 (Below.refl _ _))).mono ?_; rintro e w1 ⟨n, k, f, rfl, hb1, ⟨hk0, hk1⟩, hv⟩; obtain ⟨kn, ek⟩ := Int.eq_ofNat_of_zero_le hk0; subst ek; have hk2 : kn ≤ ys.length := (by omega); have hk3 : kn ≤ c := (by omega); have HB1 := Aside0.mk hb1; have HV := Aside0.mk hv; have HK1 := Aside0.mk ((hb1.block g (blk_lt HK.out)).trans HK.out); obtain ⟨d0, df⟩ := one_facts HK1.out; clear hb1 hv)
  all_goals go_ret2
  all_goals obtain ⟨hs, ho⟩ := HR.out.setk HK.out HB1.out hk2
  all_goals first
    | (have hcq : c = kn := by omega
       rw [if_pos hcq, hcq, Nat.sub_self] at hs ho
       refine ⟨_, _, _, rfl, hs, ho, fun x r hyy h1 h2 => ?_⟩
       obtain ⟨v1, v2, v3⟩ := HV.out x r hyy h1 h2
       have hk9 : kn = 1 := by omega
       exact ⟨v1, v3, by rw [hyy, hk9]; rfl⟩)
    | (rw [if_neg (by omega)] at hs ho
       refine ⟨_, _, _, rfl, hs, ho, fun x r hyy h1 h2 => ?_⟩
       obtain ⟨v1, v2, v3⟩ := HV.out x r hyy h1 h2
       have hk9 : kn = 1 := by omega
       exact ⟨v1, v3, by rw [hyy, hk9]; rfl⟩)
set_option maxHeartbeats 4000000 in
set_option maxRecDepth 100000 in
theorem r3bytes_calls {W : World} {b g : Nat} {ys : List Int} (hR : RS W b g ys) :
    Calls Tryz.prog 77 #[.pointer (some ⟨g, 0, none⟩)] W (B3 W b g ys) := by
  have HR := Aside0.mk hR
  obtain ⟨r1, r2, ⟨hg, hb⟩, A, c, r3, r4, r5, r7⟩ := hR
  obtain ⟨b0, bf⟩ := one_facts r3
  have HK := Aside0.mk r3
  have PB := Aside0.mk (fun (W1 : World) (hb : Below W.heap.size W W1) => pb_calls A c ys W1 (r5.below hb) r1 r2 r4)
  have hu108 := Tryz.underlying108
  clear r1 r3 r5 r7
  go_enter Tryz.func77, Tryz.ntmps77
  go_wp2_with (go_at_call 120; refine (PB.out _ (by first | exact Below.refl _ _ | exact below_drew1 (Below.refl _ _))).mono ?_; rintro e w1 ⟨A1, c1, out, k, f, rfl, hra, hro, hol, hnw, hb1, ⟨hk0, hk1⟩, hv⟩; have HRA := Aside0.mk hra; have HRO := Aside0.mk hro; have HOL := Aside0.mk hol; have HNW := Aside0.mk hnw; clear hra hro hol hnw; obtain ⟨kn, ek⟩ := Int.eq_ofNat_of_zero_le hk0; subst ek; have hk2 : kn ≤ ys.length := (by omega); have hk3 : kn ≤ c := (by omega); have HB1 := Aside0.mk hb1; have HV := Aside0.mk hv; have HK1 := Aside0.mk ((hb1.block g (blk_lt HK.out)).trans HK.out); obtain ⟨d0, df⟩ := one_facts HK1.out; clear hb1 hv)
  all_goals go_ret2
  all_goals obtain ⟨hs, ho⟩ := HR.out.setk HK.out HB1.out hk2
  all_goals first
    | (have hcq : c = kn := by omega
       rw [if_pos hcq, hcq, Nat.sub_self] at hs ho
       have hra := HRA.out.only (S := fun j => j = g) ((Only.of_below (S := fun j => j = g) (Below.refl _ w1)).setCell g 0 rfl (.slice A (ys.length - kn) 0)) (fun ad e _ q => by have := HNW.out ad e; have hq : ad.block = g := q; omega)
       refine ⟨_, _, _, _, _, rfl, hra, (fun ad e q => by have := HNW.out ad e; omega), HRO.out, HOL.out, hs, ho, fun s0 r h1 h2 => ?_⟩
       obtain ⟨v1, v2, v3⟩ := HV.out s0 r h1 h2
       have hk9 : kn = s0.size + 2 := by omega
       refine ⟨v1, v3, ?_⟩
       rw [h2, hk9]
       exact text_drop)
    | (rw [if_neg (by omega)] at hs ho
       have hra := HRA.out.only (S := fun j => j = g) ((Only.of_below (S := fun j => j = g) (Below.refl _ w1)).setCell g 0 rfl (.slice (A.map (fun x => x.add kn)) (ys.length - kn) (c - kn))) (fun ad e _ q => by have := HNW.out ad e; have hq : ad.block = g := q; omega)
       refine ⟨_, _, _, _, _, rfl, hra, (fun ad e q => by have := HNW.out ad e; omega), HRO.out, HOL.out, hs, ho, fun s0 r h1 h2 => ?_⟩
       obtain ⟨v1, v2, v3⟩ := HV.out s0 r h1 h2
       have hk9 : kn = s0.size + 2 := by omega
       refine ⟨v1, v3, ?_⟩
       rw [h2, hk9]
       exact text_drop)
set_option maxHeartbeats 4000000 in
set_option maxRecDepth 100000 in
theorem r3flag_calls {W : World} {b g : Nat} {ys : List Int} (hR : RS W b g ys) :
    Calls Tryz.prog 79 #[.pointer (some ⟨g, 0, none⟩)] W (F3 W b g ys) := by
  have HR := Aside0.mk hR
  obtain ⟨r1, r2, ⟨hg, hb⟩, A, c, r3, r4, r5, r7⟩ := hR
  obtain ⟨b0, bf⟩ := one_facts r3
  have HK := Aside0.mk r3
  have PI := Aside0.mk (fun (W1 : World) (hb : Below W.heap.size W W1) => pi_calls A c ys W1 (r5.below hb) r1 (by omega) r4)
  have hu108 := Tryz.underlying108
  clear r1 r3 r5 r7
  go_enter Tryz.func79, Tryz.ntmps79
  go_wp2_with (go_at_call 121; refine (PI.out _ (by first | exact Below.refl _ _ | exact below_drew1 (Below.refl _ _))).mono ?_; rintro e w1 ⟨n, k, f, rfl, hb1, ⟨hk0, hk1⟩, hv⟩; obtain ⟨kn, ek⟩ := Int.eq_ofNat_of_zero_le hk0; subst ek; have hk2 : kn ≤ ys.length := (by omega); have hk3 : kn ≤ c := (by omega); have HB1 := Aside0.mk hb1; have HV := Aside0.mk hv; have HK1 := Aside0.mk ((hb1.block g (blk_lt HK.out)).trans HK.out); obtain ⟨d0, df⟩ := one_facts HK1.out; clear hb1 hv; rcases (show (f = 0 ∧ n = 0) ∨ (f = 0 ∧ n = 1) ∨ ¬ (f = 0 ∧ (n = 0 ∨ n = 1)) from by omega) with ⟨q1, q2⟩ | ⟨q1, q2⟩ | hq; all_goals (try (subst q1; subst q2)))
  all_goals go_ret2
  all_goals obtain ⟨hs, ho⟩ := HR.out.setk HK.out HB1.out hk2
  all_goals first
    | (have hcq : c = kn := by omega
       rw [if_pos hcq, hcq, Nat.sub_self] at hs ho
       refine ⟨_, _, _, rfl, hs, ho, fun x r hyy h1 => ?_⟩
       obtain ⟨v1, v2, v3⟩ := HV.out x r hyy (by omega) (by omega)
       refine ⟨?_, rfl, by rw [hyy, show kn = 1 by omega]; rfl⟩
       rcases h1 with h1 | h1 <;> subst h1 <;> first | rfl | (exfalso; omega))
    | (rw [if_neg (by omega)] at hs ho
       refine ⟨_, _, _, rfl, hs, ho, fun x r hyy h1 => ?_⟩
       obtain ⟨v1, v2, v3⟩ := HV.out x r hyy (by omega) (by omega)
       refine ⟨?_, rfl, by rw [hyy, show kn = 1 by omega]; rfl⟩
       rcases h1 with h1 | h1 <;> subst h1 <;> first | rfl | (exfalso; omega))
    | (refine ⟨_, _, _, rfl, HR.out.below HB1.out, Only.of_below HB1.out, fun x r hyy h1 => ?_⟩
       exfalso
       obtain ⟨v1, v2, v3⟩ := HV.out x r hyy (by omega) (by omega)
       omega)
end Go.Proofs.YtmeopdjdjmjngaaGreatDoor.I
