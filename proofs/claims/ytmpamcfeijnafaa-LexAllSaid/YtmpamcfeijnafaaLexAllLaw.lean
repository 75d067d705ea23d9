/- LexAll: the law's walk: true, where what is wanted is what lex.All goes through. Conditions: those of the theorem. -/
import Derived.Test.YtmpamcfeijnafaaLexTold
import Derived.Test.YtmpamcfeijnafaaR14
import Derived.Test.YtmpamcfeijnafaaR15
import Derived.Test.YtmpamcfeijnafaaR6
namespace Go.Proofs.Ytmpamcfeijnafaa.R
open Go.RowKit Go.Proofs.Ytmpamcfeijnafaa.Iter Go.Proofs.YtmpamcfeijnafaaW.PrintWords Go.Proofs.YtmpamcfeijnafaaW.PrintLast Go.Proofs.YtmpamcfeijnafaaW.PrintMore
attribute [local go_sem] Oper.semAt_some

instance tkDec : DecidableEq Tk := fun x y => decidable_of_iff (x.f0 = y.f0 ∧ x.f1 = y.f1 ∧ x.f2 = y.f2) ⟨fun h => by cases x; cases y; simp_all, fun h => by subst h; exact ⟨rfl, rfl, rfl⟩⟩
def allLaw.f (k : Nat) (a0 : ByteArray) : Option Bool :=
  if a0.size ≤ 65536 then (colonnaderef16_Known.f k a0).bind fun x => if allOf k a0 = some x.1 ∧ colonnadelaw16_begun.f k = some true then some true else none
  else if colonnadelaw16_begun.f k = some true then some true else none

set_option maxHeartbeats 8000000 in
set_option maxRecDepth 100000 in
theorem allLaw.known (k : Nat) (a0 : ByteArray) (a1 : Int) (xs : List Tk) (i : Int) (b : Bool) (hz : a0.size ≤ 65536) (hK : colonnaderef16_Known.f k a0 = some (xs, i, b)) (hA : allOf k a0 = some xs) (hB : colonnadelaw16_begun.f k = some true) (w : World) :
    Calls Try.prog 4 #[.string a0, .int .i64 a1] w fun e w' => e = .returned (.bool true) ∧ Below w.heap.size w w' := by
  have c1 : decide ((a0.size : Int) ≤ 65536) = true := decide_eq_true (by omega)
  have c2 : decide (a0.size ≤ 65536) = true := decide_eq_true hz
  have AK := Aside0.mk hK
  have AA := Aside0.mk hA
  have AB := Aside0.mk hB
  clear hK hA hB hz
  go_enter Try.func4, Try.ntmps4
  go_wp2_with (go_at_call 9; (with_reducible refine (colonnaderef16_Known.calls k a0 xs i b _ AK.out).mono ?_))
  rintro e w1 ⟨v0, rfl, hR, hb1⟩
  obtain ⟨A, c, rfl, hlc, hC⟩ := Kd.R_reads hR
  have HC := Aside0.mk hC
  have HL := Aside0.mk hlc
  have H1 := Aside0.mk hb1
  clear hC hlc hb1 hR
  go_wp2_with (go_at_call 10; (with_reducible refine (all_calls a0 _).mono ?_))
  rintro e w2 ⟨rfl, rfl⟩
  have hs2 : (w1.alloc (.cells #[.string a0] 9)).heap.size = w1.heap.size + 1 := by simp
  have hc2 : (w1.alloc (.cells #[.string a0] 9)).cell? ⟨w1.heap.size, 0, none⟩ = some (.string a0) := by unfold World.cell?; rw [World.alloc_heap_new]; rfl
  have hC2 := Kd.C_below HC.out ((Below.refl _ w1).alloc (Nat.le_refl _) (.cells #[.string a0] 9))
  have H2 := Aside0.mk (H1.out.alloc H1.out.size (.cells #[.string a0] 9))
  obtain ⟨B0, hB0⟩ : ∃ B0, w1.heap.size = B0 := ⟨_, rfl⟩
  rw [hB0] at hc2 hs2 ⊢
  obtain ⟨W2, hW2⟩ : ∃ W2, w1.alloc (.cells #[.string a0] 9) = W2 := ⟨_, rfl⟩
  rw [hW2] at hc2 hs2 hC2 H2 ⊢
  have S2 := Aside0.mk hs2
  have C2 := Aside0.mk hc2
  have K2 := Aside0.mk hC2
  clear hc2 hs2 hC2 hW2 hB0 HC H1
  go_wp2_with (go_at_call 7; (with_reducible refine (colonnadelaw16_begun.calls k true _ AB.out).mono ?_))
  rintro e w3 ⟨rfl, hb3⟩
  have H3 := Aside0.mk hb3
  clear hb3
  go_wp2_with (go_at_call 11; (with_reducible refine (told_calls k a0 xs AA.out B0 A c a1 _ (by have := S2.out; have := H3.out.size; omega) ((H3.out.cell (p := ⟨B0, 0, none⟩) (by have := S2.out; show B0 < _; omega)).trans C2.out) (Kd.C_below K2.out H3.out) HL.out).mono ?_))
  rintro e w4 ⟨rfl, hb4⟩
  have H4 := Aside0.mk (H3.out.trans (hb4.mono H3.out.size))
  clear hb4
  go_wp2_with (go_at_call 11; (with_reducible refine (told_calls k a0 xs AA.out B0 A c 0 _ (by have := S2.out; have := H4.out.size; omega) ((H4.out.cell (p := ⟨B0, 0, none⟩) (by have := S2.out; show B0 < _; omega)).trans C2.out) (Kd.C_below K2.out H4.out) HL.out).mono ?_))
  rintro e w5 ⟨rfl, hb5⟩
  have H5 := Aside0.mk (H2.out.trans ((H4.out.trans (hb5.mono H4.out.size)).mono H2.out.size))
  clear hb5
  go_wp2
  go_ret
  exact ⟨rfl, H5.out⟩

set_option maxHeartbeats 8000000 in
set_option maxRecDepth 100000 in
theorem allLaw.long (k : Nat) (a0 : ByteArray) (a1 : Int) (hz : ¬ a0.size ≤ 65536) (hB : colonnadelaw16_begun.f k = some true) (w : World) :
    Calls Try.prog 4 #[.string a0, .int .i64 a1] w fun e w' => e = .returned (.bool true) ∧ Below w.heap.size w w' := by
  have c1 : decide ((a0.size : Int) ≤ 65536) = false := decide_eq_false (by omega)
  have c2 : decide (a0.size ≤ 65536) = false := decide_eq_false hz
  have AA := Aside0.mk (show allOf k a0 = some [] by unfold allOf; rw [if_pos (by omega)])
  have AB := Aside0.mk hB
  clear hB hz
  go_enter Try.func4, Try.ntmps4
  go_wp2_with (go_at_call 10; (with_reducible refine (all_calls a0 _).mono ?_))
  rintro e w2 ⟨rfl, rfl⟩
  have S2 := Aside0.mk (show (w.alloc (.cells #[.string a0] 9)).heap.size = w.heap.size + 1 by simp)
  have C2 := Aside0.mk (show (w.alloc (.cells #[.string a0] 9)).cell? ⟨w.heap.size, 0, none⟩ = some (.string a0) by unfold World.cell?; rw [World.alloc_heap_new]; rfl)
  have H2 := Aside0.mk ((Below.refl _ w).alloc (Nat.le_refl _) (.cells #[.string a0] 9))
  obtain ⟨B0, hB0⟩ : ∃ B0, w.heap.size = B0 := ⟨_, rfl⟩
  rw [hB0] at C2 S2 ⊢
  obtain ⟨W2, hW2⟩ : ∃ W2, w.alloc (.cells #[.string a0] 9) = W2 := ⟨_, rfl⟩
  rw [hW2] at C2 S2 H2 ⊢
  clear hW2 hB0
  go_wp2_with (go_at_call 7; (with_reducible refine (colonnadelaw16_begun.calls k true _ AB.out).mono ?_))
  rintro e w3 ⟨rfl, hb3⟩
  have H3 := Aside0.mk hb3
  have t1 := told_calls k a0 [] AA.out B0 none 0
  simp only [List.length_nil] at t1
  have T1 := Aside0.mk t1
  clear t1
  clear hb3
  go_wp2_with (go_at_call 11; (with_reducible refine (T1.out a1 _ (by have := S2.out; have := H3.out.size; omega) ((H3.out.cell (p := ⟨B0, 0, none⟩) (by have := S2.out; show B0 < _; omega)).trans C2.out) (Kd.C_nil _ _) (Nat.le_refl _)).mono ?_))
  rintro e w4 ⟨rfl, hb4⟩
  have H4 := Aside0.mk (H3.out.trans (hb4.mono H3.out.size))
  clear hb4
  go_wp2_with (go_at_call 11; (with_reducible refine (T1.out 0 _ (by have := S2.out; have := H4.out.size; omega) ((H4.out.cell (p := ⟨B0, 0, none⟩) (by have := S2.out; show B0 < _; omega)).trans C2.out) (Kd.C_nil _ _) (Nat.le_refl _)).mono ?_))
  rintro e w5 ⟨rfl, hb5⟩
  have H5 := Aside0.mk (H2.out.trans ((H4.out.trans (hb5.mono H4.out.size)).mono H2.out.size))
  clear hb5
  go_wp2
  go_ret
  exact ⟨rfl, H5.out⟩

theorem allLaw.calls (k : Nat) (a0 : ByteArray) (a1 : Int) (r : Bool) (w : World) (h : allLaw.f k a0 = some r) :
    Calls Try.prog 4 #[.string a0, .int .i64 a1] w fun e w' => e = .returned (.bool r) ∧ Below w.heap.size w w' := by
  unfold allLaw.f at h
  by_cases hz : a0.size ≤ 65536
  · rw [if_pos hz] at h
    obtain ⟨⟨xs, i, b⟩, hK, h⟩ := Option.bind_eq_some_iff.mp h
    by_cases g : allOf k a0 = some xs ∧ colonnadelaw16_begun.f k = some true
    · rw [if_pos g] at h
      obtain rfl := Option.some.inj h
      exact allLaw.known k a0 a1 xs i b hz hK g.1 g.2 w
    · rw [if_neg g] at h; cases h
  · rw [if_neg hz] at h
    by_cases g : colonnadelaw16_begun.f k = some true
    · rw [if_pos g] at h
      obtain rfl := Option.some.inj h
      exact allLaw.long k a0 a1 hz g w
    · rw [if_neg g] at h; cases h
end Go.Proofs.Ytmpamcfeijnafaa.R
