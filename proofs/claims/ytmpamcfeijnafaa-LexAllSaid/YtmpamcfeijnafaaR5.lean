/- PRINTED BY A PROGRAM OF THIS SESSION (px.py, over the kit's print): Lean functions with the answers of Go functions of the given program, and proofs that the Go code comes to these answers; each under the conditions that its theorem states. -/
import Derived.Test.YtmpamcfeijnafaaR0
import Derived.Test.YtmpamcfeijnafaaR2
import Derived.Test.YtmpamcfeijnafaaR3
import Derived.Test.YtmpamcfeijnafaaR4
namespace Go.Proofs.Ytmpamcfeijnafaa.R
open Go.RowKit Go.Proofs.YtmpamcfeijnafaaW.PrintWords Go.Proofs.YtmpamcfeijnafaaW.PrintLast Go.Proofs.YtmpamcfeijnafaaW.PrintMore
attribute [local go_sem] max2_int min2_int max_two min_two max_three min_three max_four min_four   -- for this text's walks alone
set_option linter.unusedVariables false
set_option linter.unusedSimpArgs false

/-! ### lex_one: function 18, by hand -/
/-- one of the four signs of two letters -/
def lex_one.tw (t : ByteArray) : Bool := (t == (⟨#[60, 61]⟩ : ByteArray)) || (t == (⟨#[62, 61]⟩ : ByteArray)) || (t == (⟨#[60, 62]⟩ : ByteArray)) || (t == (⟨#[124, 124]⟩ : ByteArray))
def lex_one.f (k : Nat) (a0 : ByteArray) : Option (Int × ByteArray × Int × Int) :=
  if 0 < a0.size ∧ a0.size ≤ 140737488351232 then (lex_is.f (bt a0 0) (⟨#[97, 98, 99, 100, 101, 102, 103, 104, 105, 106, 107, 108, 109, 110, 111, 112, 113, 114, 115, 116, 117, 118, 119, 120, 121, 122, 65, 66, 67, 68, 69, 70, 71, 72, 73, 74, 75, 76, 77, 78, 79, 80, 81, 82, 83, 84, 85, 86, 87, 88, 89, 90, 95]⟩ : ByteArray)).bind fun t1 =>
    (if t1 = true then (lex_run.f k a0 (⟨#[97, 98, 99, 100, 101, 102, 103, 104, 105, 106, 107, 108, 109, 110, 111, 112, 113, 114, 115, 116, 117, 118, 119, 120, 121, 122, 65, 66, 67, 68, 69, 70, 71, 72, 73, 74, 75, 76, 77, 78, 79, 80, 81, 82, 83, 84, 85, 86, 87, 88, 89, 90, 95, 48, 49, 50, 51, 52, 53, 54, 55, 56, 57]⟩ : ByteArray)).bind fun n => (if n ≤ 32 then (if 0 ≤ n ∧ n ≤ (a0.size : Int) then (lex_small.f (a0.extract 0 n.toNat)).bind fun t => some (1, t, 0, n) else none) else some (0, ⟨#[]⟩, 0, 0))
    else (lex_is.f (bt a0 0) (⟨#[48, 49, 50, 51, 52, 53, 54, 55, 56, 57]⟩ : ByteArray)).bind fun t2 =>
    (if t2 = true then (lex_number.f k a0).bind fun n => (if 0 ≤ n ∧ n ≤ (a0.size : Int) then (if n ≤ 40 then (if n = (a0.size : Int) then some (2, a0.extract 0 n.toNat, 0, n) else (lex_is.f (bt a0 n) (⟨#[97, 98, 99, 100, 101, 102, 103, 104, 105, 106, 107, 108, 109, 110, 111, 112, 113, 114, 115, 116, 117, 118, 119, 120, 121, 122, 65, 66, 67, 68, 69, 70, 71, 72, 73, 74, 75, 76, 77, 78, 79, 80, 81, 82, 83, 84, 85, 86, 87, 88, 89, 90, 95]⟩ : ByteArray)).bind fun t3 => (if t3 = true then some (0, ⟨#[]⟩, 0, 0) else some (2, a0.extract 0 n.toNat, 0, n))) else some (0, ⟨#[]⟩, 0, 0)) else none)
    else (if bt a0 0 = 39 then (lex_quoted.f a0).bind fun q => (if 0 < q.2 then (if q.1.size ≤ 256 then some (3, q.1, 0, q.2) else some (0, ⟨#[]⟩, 0, 0)) else some (0, ⟨#[]⟩, 0, 0))
    else (if 1 < a0.size ∧ lex_one.tw (a0.extract 0 2) = true then some (4, a0.extract 0 2, 0, 2)
    else (lex_is.f (bt a0 0) (⟨#[40, 41, 44, 46, 59, 42, 43, 45, 47, 37, 61, 60, 62]⟩ : ByteArray)).bind fun t4 => (if t4 = true then some (4, a0.extract 0 1, 0, 1) else some (0, ⟨#[]⟩, 0, 0)))))) else none
theorem lex_one.mono : ∀ a0 k, LeO (lex_one.f k a0) (lex_one.f (k + 1) a0) := by
  intro a0 k
  unfold lex_one.f
  repeat' first
      | (with_reducible exact lex_run.mono _ _ _)
      | (with_reducible exact lex_number.mono _ _)
      | (with_reducible exact LeO.refl _)
      | (with_reducible exact LeO.none _)
      | (with_reducible refine LeO.ite ?_ ?_)
      | (with_reducible refine LeO.bind ?_ (fun _ => ?_))
/-- the world with a map's new entries -/
def lex_one.put (W : World) (r : Nat) (es : Array MapEntry) (c : Nat) : World := { W with heap := W.heap.setIfInBounds r (.map es c) }
theorem lex_one.put_run (W : World) (r c : Nat) (es : Array MapEntry) (s : ByteArray) (hb : W.heap[r]? = some (.map es c)) (hf : Instr.findNow .string (.string s) es.toList 0 = some none) :
    (Instr.mapUpdate 53 (.map (some r)) (.string s) (.bool true)).run Try.prog W = .ok () (lex_one.put W r (es.push { key := .string s, val := .bool true, born := c }) (c + 1)) := by
  have hc : (Instr.checkKey false 10000 9 (.string s)).run Try.prog W = .ok () W := MapKept.run_checkKey (k := .string s) Try.underlying9 (by simp [MapKept.IsKey]) false 9999
  simp [Instr.mapUpdate, run_underlying Try.underlying53, MapKept.run_getObj_map hb, hc, MapKept.run_findKey Try.underlying9 hf, MapKept.run_setObj_map _ hb, Result.andThen, lex_one.put]
theorem lex_one.put_at {W : World} {r : Nat} {o : Obj} (es : Array MapEntry) (c : Nat) (hb : W.heap[r]? = some o) : (lex_one.put W r es c).heap[r]? = some (.map es c) ∧ (∀ j, j ≠ r → (lex_one.put W r es c).heap[j]? = W.heap[j]?) ∧ (lex_one.put W r es c).heap.size = W.heap.size := by
  have h := MapKept.heap_set (o' := .map es c) hb
  exact ⟨h.1, h.2, by simp [lex_one.put]⟩
def lex_one.en (s : ByteArray) (c : Nat) : MapEntry := { key := .string s, val := .bool true, born := c }
def lex_one.all : Array MapEntry := #[lex_one.en ⟨#[60, 61]⟩ 0, lex_one.en ⟨#[62, 61]⟩ 1, lex_one.en ⟨#[60, 62]⟩ 2, lex_one.en ⟨#[124, 124]⟩ 3]
theorem lex_one.look (W : World) (r : Nat) (t : ByteArray) (hb : W.heap[r]? = some (.map lex_one.all 4)) : (Instr.lookup 53 (.map (some r)) (.string t) false).run Try.prog W = .ok (.bool (lex_one.tw t)) W := by
  have hc : ∀ b, (Instr.checkKey b 10000 9 (.string t)).run Try.prog W = .ok () W := fun b => MapKept.run_checkKey (k := .string t) Try.underlying9 (by simp [MapKept.IsKey]) b 9999
  unfold lex_one.tw
  cases h1 : (t == (⟨#[60, 61]⟩ : ByteArray)) <;> cases h2 : (t == (⟨#[62, 61]⟩ : ByteArray)) <;> cases h3 : (t == (⟨#[60, 62]⟩ : ByteArray)) <;> cases h4 : (t == (⟨#[124, 124]⟩ : ByteArray)) <;>
  · have hf : ∃ x, Instr.findNow .string (.string t) lex_one.all.toList 0 = some x := by
      simp [lex_one.all, lex_one.en, Instr.findNow, Instr.sameNow, h1, h2, h3, h4]
    obtain ⟨x, hf⟩ := hf
    have hf2 := hf
    simp [lex_one.all, lex_one.en, Instr.findNow, Instr.sameNow, h1, h2, h3, h4] at hf2
    subst hf2
    simp [Instr.lookup, run_underlying Try.underlying53, MapKept.run_getObj_map hb, hc, MapKept.run_findKey Try.underlying9 hf, Try.zeroValue4, Result.andThen]
/-- the world behind the literal -/
structure lex_one.Laid (w W : World) : Prop where
  below : Below w.heap.size w W
  map : W.heap[w.heap.size + 1]? = some (.map lex_one.all 4)
  tok : W.heap[w.heap.size]? = some (.cells #[.int .i64 0, .string ⟨#[]⟩, .int .i64 0] 29 (0, 0))
  size : W.heap.size = w.heap.size + 2
theorem lex_one.lays (w : World) : ∃ W1 W2 W3 W4 : World, lex_one.Laid w W4 ∧
    (Instr.mapUpdate 53 (.map (some (w.heap.size + 1))) (.string ⟨#[60, 61]⟩) (.bool true)).run Try.prog ((w.alloc (.cells #[.int .i64 0, .string ⟨#[]⟩, .int .i64 0] 29)).alloc (.map #[] 0)) = .ok () W1 ∧
    (Instr.mapUpdate 53 (.map (some (w.heap.size + 1))) (.string ⟨#[62, 61]⟩) (.bool true)).run Try.prog W1 = .ok () W2 ∧
    (Instr.mapUpdate 53 (.map (some (w.heap.size + 1))) (.string ⟨#[60, 62]⟩) (.bool true)).run Try.prog W2 = .ok () W3 ∧
    (Instr.mapUpdate 53 (.map (some (w.heap.size + 1))) (.string ⟨#[124, 124]⟩) (.bool true)).run Try.prog W3 = .ok () W4 := by
  obtain ⟨W0, e0⟩ : ∃ W0, W0 = (w.alloc (.cells #[.int .i64 0, .string ⟨#[]⟩, .int .i64 0] 29)).alloc (.map #[] 0) := ⟨_, rfl⟩
  have s0 : W0.heap.size = w.heap.size + 2 := by rw [e0]; simp
  have g1 := MapKept.heap_alloc w (.cells #[.int .i64 0, .string ⟨#[]⟩, .int .i64 0] 29)
  have g2 := MapKept.heap_alloc (w.alloc (.cells #[.int .i64 0, .string ⟨#[]⟩, .int .i64 0] 29)) (.map #[] 0)
  have g3 : (w.alloc (.cells #[.int .i64 0, .string ⟨#[]⟩, .int .i64 0] 29)).heap.size = w.heap.size + 1 := by simp
  have m0 : W0.heap[w.heap.size + 1]? = some (.map #[] 0) := by rw [e0, ← g3]; exact g2.1
  have t0 : W0.heap[w.heap.size]? = some (.cells #[.int .i64 0, .string ⟨#[]⟩, .int .i64 0] 29 (0, 0)) := by rw [e0, g2.2 _ (by omega)]; exact g1.1
  have b0 : Below w.heap.size w W0 := by rw [e0]; exact ((Below.refl _ w).alloc (Nat.le_refl _) _).alloc (by simp) _
  rw [← e0]
  have r1 := lex_one.put_run W0 _ 0 #[] ⟨#[60, 61]⟩ m0 rfl
  obtain ⟨W1, e1⟩ : ∃ W1, W1 = lex_one.put W0 (w.heap.size + 1) #[lex_one.en ⟨#[60, 61]⟩ 0] 1 := ⟨_, rfl⟩
  have a1 := lex_one.put_at #[lex_one.en ⟨#[60, 61]⟩ 0] 1 m0
  have r2 := lex_one.put_run _ _ 1 #[lex_one.en ⟨#[60, 61]⟩ 0] ⟨#[62, 61]⟩ a1.1 rfl
  have a2 := lex_one.put_at #[lex_one.en ⟨#[60, 61]⟩ 0, lex_one.en ⟨#[62, 61]⟩ 1] 2 a1.1
  have r3 := lex_one.put_run _ _ 2 #[lex_one.en ⟨#[60, 61]⟩ 0, lex_one.en ⟨#[62, 61]⟩ 1] ⟨#[60, 62]⟩ a2.1 rfl
  have a3 := lex_one.put_at #[lex_one.en ⟨#[60, 61]⟩ 0, lex_one.en ⟨#[62, 61]⟩ 1, lex_one.en ⟨#[60, 62]⟩ 2] 3 a2.1
  have r4 := lex_one.put_run _ _ 3 #[lex_one.en ⟨#[60, 61]⟩ 0, lex_one.en ⟨#[62, 61]⟩ 1, lex_one.en ⟨#[60, 62]⟩ 2] ⟨#[124, 124]⟩ a3.1 rfl
  have a4 := lex_one.put_at lex_one.all 4 a3.1
  have bel : ∀ {V : World} (es : Array MapEntry) (c : Nat), Below w.heap.size w V → V.heap.size = w.heap.size + 2 → Below w.heap.size w (lex_one.put V (w.heap.size + 1) es c) := fun es c h hs =>
    ⟨h.os, h.tape, h.output, by have := h.size; simp only [lex_one.put, Array.size_setIfInBounds]; exact this, fun j hj => by
      rw [← h.block j hj]
      simp only [lex_one.put]
      rw [Array.getElem?_setIfInBounds_ne (by omega)]⟩
  have s1 := a1.2.2.trans s0
  have s2 := a2.2.2.trans s1
  have s3 := a3.2.2.trans s2
  have s4 := a4.2.2.trans s3
  refine ⟨_, _, _, _, ⟨bel _ _ (bel _ _ (bel _ _ (bel _ _ b0 s0) s1) s2) s3, a4.1, ?_, s4⟩, r1, r2, r3, r4⟩
  rw [a4.2.1 _ (by omega), a3.2.1 _ (by omega), a2.2.1 _ (by omega), a1.2.1 _ (by omega)]
  exact t0
theorem lex_one.tok3 {w : World} {b : Nat} {u v x : Value} (h : w.heap[b]? = some (.cells #[u, v, x] 29 (0, 0))) (p q r : Value) : (((w.setCell ⟨b, 0, none⟩ p).setCell ⟨b, 1, none⟩ q).setCell ⟨b, 2, none⟩ r).heap[b]? = some (.cells #[p, q, r] 29 (0, 0)) :=
  blk_put (blk_put (blk_put h 0 p rfl) 1 q rfl) 2 r rfl
theorem lex_one.keep {w W V V' : World} (h : lex_one.Laid w W) (hV : V.heap = W.heap) (hb : Below V.heap.size V V') : V'.heap[w.heap.size]? = some (.cells #[.int .i64 0, .string ⟨#[]⟩, .int .i64 0] 29 (0, 0)) := by
  rw [hb.block _ (by rw [hV, h.size]; omega), hV]
  exact h.tok
theorem lex_one.facts {W : World} {b : Nat} (h : W.heap[b]? = some (.cells #[.int .i64 0, .string ⟨#[]⟩, .int .i64 0] 29 (0, 0))) :
    W.cell? ⟨b, 0, none⟩ = some (.int .i64 0) ∧ W.cell? ⟨b, 1, none⟩ = some (.string ⟨#[]⟩) ∧ W.cell? ⟨b, 2, none⟩ = some (.int .i64 0) ∧ W.frozen? ⟨b, 0, none⟩ = false ∧ W.frozen? ⟨b, 1, none⟩ = false ∧ W.frozen? ⟨b, 2, none⟩ = false :=
  ⟨by rw [Lib.cell_of_heap h]; rfl, by rw [Lib.cell_of_heap h]; rfl, by rw [Lib.cell_of_heap h]; rfl, Lib.frozen_of_heap h 0, Lib.frozen_of_heap h 1, Lib.frozen_of_heap h 2⟩
set_option maxHeartbeats 8000000 in
set_option maxRecDepth 100000 in
theorem lex_one.calls (k : Nat) (a0 : ByteArray) (r1 : Int) (r2 : ByteArray) (r3 r4 : Int) (w : World) (h : lex_one.f k a0 = some (r1, r2, r3, r4)) :
    Calls Try.prog 18 #[.string a0] w fun e w' => e = .returned (.tuple #[.agg #[.int .i64 r1, .string r2, .int .i64 r3], .int .i64 r4]) ∧ Below w.heap.size w w' := by
  unfold lex_one.f at h
  by_cases hs : 0 < a0.size ∧ a0.size ≤ 140737488351232
  · rw [if_pos hs] at h
    replace h := Option.bind_eq_some_iff.mp h
    obtain ⟨t1, B1, h⟩ := h
    have A1 := Aside0.mk B1
    clear B1
    obtain ⟨W1, W2, W3, W4, HL0, P1, P2, P3, P4⟩ := lex_one.lays w
    have HL := Aside0.mk HL0
    have HB := Aside0.mk HL0.below
    have c0 : W4.cell? ⟨w.heap.size, 0, none⟩ = some (.int .i64 0) := by rw [Lib.cell_of_heap HL0.tok]; rfl
    have c1 : W4.cell? ⟨w.heap.size, 1, none⟩ = some (.string ⟨#[]⟩) := by rw [Lib.cell_of_heap HL0.tok]; rfl
    have c2 : W4.cell? ⟨w.heap.size, 2, none⟩ = some (.int .i64 0) := by rw [Lib.cell_of_heap HL0.tok]; rfl
    have f0 : W4.frozen? ⟨w.heap.size, 0, none⟩ = false := Lib.frozen_of_heap HL0.tok 0
    have f1 : W4.frozen? ⟨w.heap.size, 1, none⟩ = false := Lib.frozen_of_heap HL0.tok 1
    have f2 : W4.frozen? ⟨w.heap.size, 2, none⟩ = false := Lib.frozen_of_heap HL0.tok 2
    clear HL0
    have mm := fun W : World => run_makeMap_plain (P := Try.prog) (w := W) 53
    have q0 := eq_true (show (0 : Int) < (a0.size : Int) by omega)
    have q1 := eq_true hs.1
    have hx0 : ∀ h : 0 < a0.size, ((a0[0]'h).toNat : Int) = bt a0 0 := fun h => bt_at a0 0 h
    have HS := Aside0.mk hs
    clear hs
    obtain ⟨v, hv⟩ : ∃ v : Int, v = bt a0 0 := ⟨_, rfl⟩
    cases t1 with
    | true =>
      rw [if_pos rfl] at h
      replace h := Option.bind_eq_some_iff.mp h
      obtain ⟨n, B_, h⟩ := h
      have A2 := Aside0.mk B_
      clear B_
      by_cases d : n ≤ 32
      · rw [if_pos d] at h
        have d1 : decide (n ≤ 32) = true := decide_eq_true d
        by_cases g : 0 ≤ n ∧ n ≤ (a0.size : Int)
        · rw [if_pos g] at h
          have g1 := eq_true g.1
          have g2 := eq_true g.2
          replace h := Option.bind_eq_some_iff.mp h
          obtain ⟨t, B_, h⟩ := h
          have A3 := Aside0.mk B_
          clear B_
          simp only [Option.some.injEq, Prod.mk.injEq] at h
          obtain ⟨rfl, rfl, rfl, rfl⟩ := h
          clear d g
          go_enter Try.func18, Try.ntmps18
          go_wp2_with (first | (go_at_call 31; (with_reducible refine (lex_is.calls (bt a0 0) (⟨#[97, 98, 99, 100, 101, 102, 103, 104, 105, 106, 107, 108, 109, 110, 111, 112, 113, 114, 115, 116, 117, 118, 119, 120, 121, 122, 65, 66, 67, 68, 69, 70, 71, 72, 73, 74, 75, 76, 77, 78, 79, 80, 81, 82, 83, 84, 85, 86, 87, 88, 89, 90, 95]⟩ : ByteArray) true _ A1.out).mono ?_); rintro e w' ⟨rfl, ⟨nd, rfl⟩⟩) | (go_at_call 28; (with_reducible refine (lex_run.calls k a0 (⟨#[97, 98, 99, 100, 101, 102, 103, 104, 105, 106, 107, 108, 109, 110, 111, 112, 113, 114, 115, 116, 117, 118, 119, 120, 121, 122, 65, 66, 67, 68, 69, 70, 71, 72, 73, 74, 75, 76, 77, 78, 79, 80, 81, 82, 83, 84, 85, 86, 87, 88, 89, 90, 95, 48, 49, 50, 51, 52, 53, 54, 55, 56, 57]⟩ : ByteArray) n _ A2.out).mono ?_); rintro e w' ⟨rfl, ⟨nd, rfl⟩⟩) | (go_at_call 32; (with_reducible refine (lex_small.calls (a0.extract 0 n.toNat) t _ A3.out).mono ?_); rintro e w5 ⟨rfl, hb⟩; have tk := lex_one.keep HL.out (by first | rfl | simp) hb; have hb5 : Below w.heap.size w w5 := Below.trans (pw_below_drewN HB.out _) (hb.mono (by show w.heap.size ≤ W4.heap.size; have := HL.out.size; omega)); obtain ⟨d0_, d1_, d2_, g0_, g1_, g2_⟩ := lex_one.facts tk))
          refine bodyPost_ret (results_ct rfl _ _ w.heap.size 29 #[.int .i64 1, .string t, .int .i64 0] (0, 0) _ rfl (lex_one.tok3 tk _ _ _) Try.underlying29 rfl (by kernel_rfl)) rfl ?_
          refine ⟨rfl, ?_⟩
          exact ((Below.setCell (p := ⟨w.heap.size, 0, none⟩) hb5 (Nat.le_refl _) _).setCell (p := ⟨w.heap.size, 1, none⟩) (Nat.le_refl _) _).setCell (p := ⟨w.heap.size, 2, none⟩) (Nat.le_refl _) _
        · rw [if_neg g] at h; exact absurd h (by simp)
      · rw [if_neg d] at h
        simp only [Option.some.injEq, Prod.mk.injEq] at h
        obtain ⟨rfl, rfl, rfl, rfl⟩ := h
        have d1 : decide (n ≤ 32) = false := decide_eq_false d
        clear d
        go_enter Try.func18, Try.ntmps18
        go_wp2_with (first | (go_at_call 31; (with_reducible refine (lex_is.calls (bt a0 0) (⟨#[97, 98, 99, 100, 101, 102, 103, 104, 105, 106, 107, 108, 109, 110, 111, 112, 113, 114, 115, 116, 117, 118, 119, 120, 121, 122, 65, 66, 67, 68, 69, 70, 71, 72, 73, 74, 75, 76, 77, 78, 79, 80, 81, 82, 83, 84, 85, 86, 87, 88, 89, 90, 95]⟩ : ByteArray) true _ A1.out).mono ?_); rintro e w' ⟨rfl, ⟨nd, rfl⟩⟩) | (go_at_call 28; (with_reducible refine (lex_run.calls k a0 (⟨#[97, 98, 99, 100, 101, 102, 103, 104, 105, 106, 107, 108, 109, 110, 111, 112, 113, 114, 115, 116, 117, 118, 119, 120, 121, 122, 65, 66, 67, 68, 69, 70, 71, 72, 73, 74, 75, 76, 77, 78, 79, 80, 81, 82, 83, 84, 85, 86, 87, 88, 89, 90, 95, 48, 49, 50, 51, 52, 53, 54, 55, 56, 57]⟩ : ByteArray) n _ A2.out).mono ?_); rintro e w' ⟨rfl, ⟨nd, rfl⟩⟩))
        refine bodyPost_ret (results_ct rfl _ _ w.heap.size 29 #[.int .i64 0, .string ⟨#[]⟩, .int .i64 0] (0, 0) _ rfl (lex_one.tok3 (by first | exact HL.out.tok | (rw [show (World.drewN W4 _).heap = W4.heap from rfl]; exact HL.out.tok) | simpa using HL.out.tok) _ _ _) Try.underlying29 rfl (by kernel_rfl)) rfl ?_
        refine ⟨rfl, ?_⟩
        exact ((Below.setCell (p := ⟨w.heap.size, 0, none⟩) (pw_below_drewN HB.out _) (Nat.le_refl _) _).setCell (p := ⟨w.heap.size, 1, none⟩) (Nat.le_refl _) _).setCell (p := ⟨w.heap.size, 2, none⟩) (Nat.le_refl _) _
    | false =>
      rw [if_neg (by decide)] at h
      replace h := Option.bind_eq_some_iff.mp h
      obtain ⟨t2, B_, h⟩ := h
      have A2 := Aside0.mk B_
      clear B_
      cases t2 with
      | true =>
        rw [if_pos rfl] at h
        replace h := Option.bind_eq_some_iff.mp h
        obtain ⟨n, B_, h⟩ := h
        have A3 := Aside0.mk B_
        clear B_
        by_cases g : 0 ≤ n ∧ n ≤ (a0.size : Int)
        · rw [if_pos g] at h
          have g1 := eq_true g.1
          have g2 := eq_true g.2
          by_cases d : n ≤ 40
          · rw [if_pos d] at h
            have d1 : decide (n ≤ 40) = true := decide_eq_true d
            by_cases y : n = (a0.size : Int)
            · rw [if_pos y] at h
              have y1 : decide (n = (a0.size : Int)) = true := decide_eq_true y
              have y2 : (n == (a0.size : Int)) = true := by rw [y]; simp
              simp only [Option.some.injEq, Prod.mk.injEq] at h
              obtain ⟨rfl, rfl, rfl, rfl⟩ := h
              clear d y g
              go_enter Try.func18, Try.ntmps18
              go_wp2_with (first | (go_at_call 31; (with_reducible refine (lex_is.calls (bt a0 0) (⟨#[97, 98, 99, 100, 101, 102, 103, 104, 105, 106, 107, 108, 109, 110, 111, 112, 113, 114, 115, 116, 117, 118, 119, 120, 121, 122, 65, 66, 67, 68, 69, 70, 71, 72, 73, 74, 75, 76, 77, 78, 79, 80, 81, 82, 83, 84, 85, 86, 87, 88, 89, 90, 95]⟩ : ByteArray) false _ A1.out).mono ?_); rintro e w' ⟨rfl, ⟨nd, rfl⟩⟩) | (go_at_call 31; (with_reducible refine (lex_is.calls (bt a0 0) (⟨#[48, 49, 50, 51, 52, 53, 54, 55, 56, 57]⟩ : ByteArray) true _ A2.out).mono ?_); rintro e w' ⟨rfl, ⟨nd, rfl⟩⟩) | (go_at_call 33; (with_reducible refine (lex_number.calls k a0 n _ A3.out).mono ?_); rintro e w' ⟨rfl, ⟨nd, rfl⟩⟩))
              refine bodyPost_ret (results_ct rfl _ _ w.heap.size 29 #[.int .i64 2, .string (a0.extract 0 n.toNat), .int .i64 0] (0, 0) _ rfl (lex_one.tok3 (by first | exact HL.out.tok | (rw [show (World.drewN W4 _).heap = W4.heap from rfl]; exact HL.out.tok) | simpa using HL.out.tok) _ _ _) Try.underlying29 rfl (by kernel_rfl)) rfl ?_
              refine ⟨rfl, ?_⟩
              exact ((Below.setCell (p := ⟨w.heap.size, 0, none⟩) (pw_below_drewN HB.out _) (Nat.le_refl _) _).setCell (p := ⟨w.heap.size, 1, none⟩) (Nat.le_refl _) _).setCell (p := ⟨w.heap.size, 2, none⟩) (Nat.le_refl _) _
            · rw [if_neg y] at h
              have y1 : decide (n = (a0.size : Int)) = false := decide_eq_false y
              have y2 : (n == (a0.size : Int)) = false := by simpa using y
              have y3 := eq_true (show n < (a0.size : Int) by omega)
              have y4 := bt_at a0 n
              replace h := Option.bind_eq_some_iff.mp h
              obtain ⟨t3, B_, h⟩ := h
              have A4 := Aside0.mk B_
              clear B_
              cases t3 with
              | true =>
                rw [if_pos rfl] at h
                simp only [Option.some.injEq, Prod.mk.injEq] at h
                obtain ⟨rfl, rfl, rfl, rfl⟩ := h
                clear d y g
                go_enter Try.func18, Try.ntmps18
                go_wp2_with (first | (go_at_call 31; (with_reducible refine (lex_is.calls (bt a0 0) (⟨#[97, 98, 99, 100, 101, 102, 103, 104, 105, 106, 107, 108, 109, 110, 111, 112, 113, 114, 115, 116, 117, 118, 119, 120, 121, 122, 65, 66, 67, 68, 69, 70, 71, 72, 73, 74, 75, 76, 77, 78, 79, 80, 81, 82, 83, 84, 85, 86, 87, 88, 89, 90, 95]⟩ : ByteArray) false _ A1.out).mono ?_); rintro e w' ⟨rfl, ⟨nd, rfl⟩⟩) | (go_at_call 31; (with_reducible refine (lex_is.calls (bt a0 0) (⟨#[48, 49, 50, 51, 52, 53, 54, 55, 56, 57]⟩ : ByteArray) true _ A2.out).mono ?_); rintro e w' ⟨rfl, ⟨nd, rfl⟩⟩) | (go_at_call 33; (with_reducible refine (lex_number.calls k a0 n _ A3.out).mono ?_); rintro e w' ⟨rfl, ⟨nd, rfl⟩⟩) | (go_at_call 31; (with_reducible refine (lex_is.calls (bt a0 n) (⟨#[97, 98, 99, 100, 101, 102, 103, 104, 105, 106, 107, 108, 109, 110, 111, 112, 113, 114, 115, 116, 117, 118, 119, 120, 121, 122, 65, 66, 67, 68, 69, 70, 71, 72, 73, 74, 75, 76, 77, 78, 79, 80, 81, 82, 83, 84, 85, 86, 87, 88, 89, 90, 95]⟩ : ByteArray) true _ A4.out).mono ?_); rintro e w' ⟨rfl, ⟨nd, rfl⟩⟩))
                refine bodyPost_ret (results_ct rfl _ _ w.heap.size 29 #[.int .i64 0, .string ⟨#[]⟩, .int .i64 0] (0, 0) _ rfl (lex_one.tok3 (by first | exact HL.out.tok | (rw [show (World.drewN W4 _).heap = W4.heap from rfl]; exact HL.out.tok) | simpa using HL.out.tok) _ _ _) Try.underlying29 rfl (by kernel_rfl)) rfl ?_
                refine ⟨rfl, ?_⟩
                exact ((Below.setCell (p := ⟨w.heap.size, 0, none⟩) (pw_below_drewN HB.out _) (Nat.le_refl _) _).setCell (p := ⟨w.heap.size, 1, none⟩) (Nat.le_refl _) _).setCell (p := ⟨w.heap.size, 2, none⟩) (Nat.le_refl _) _
              | false =>
                rw [if_neg (by decide)] at h
                simp only [Option.some.injEq, Prod.mk.injEq] at h
                obtain ⟨rfl, rfl, rfl, rfl⟩ := h
                clear d y g
                go_enter Try.func18, Try.ntmps18
                go_wp2_with (first | (go_at_call 31; (with_reducible refine (lex_is.calls (bt a0 0) (⟨#[97, 98, 99, 100, 101, 102, 103, 104, 105, 106, 107, 108, 109, 110, 111, 112, 113, 114, 115, 116, 117, 118, 119, 120, 121, 122, 65, 66, 67, 68, 69, 70, 71, 72, 73, 74, 75, 76, 77, 78, 79, 80, 81, 82, 83, 84, 85, 86, 87, 88, 89, 90, 95]⟩ : ByteArray) false _ A1.out).mono ?_); rintro e w' ⟨rfl, ⟨nd, rfl⟩⟩) | (go_at_call 31; (with_reducible refine (lex_is.calls (bt a0 0) (⟨#[48, 49, 50, 51, 52, 53, 54, 55, 56, 57]⟩ : ByteArray) true _ A2.out).mono ?_); rintro e w' ⟨rfl, ⟨nd, rfl⟩⟩) | (go_at_call 33; (with_reducible refine (lex_number.calls k a0 n _ A3.out).mono ?_); rintro e w' ⟨rfl, ⟨nd, rfl⟩⟩) | (go_at_call 31; (with_reducible refine (lex_is.calls (bt a0 n) (⟨#[97, 98, 99, 100, 101, 102, 103, 104, 105, 106, 107, 108, 109, 110, 111, 112, 113, 114, 115, 116, 117, 118, 119, 120, 121, 122, 65, 66, 67, 68, 69, 70, 71, 72, 73, 74, 75, 76, 77, 78, 79, 80, 81, 82, 83, 84, 85, 86, 87, 88, 89, 90, 95]⟩ : ByteArray) false _ A4.out).mono ?_); rintro e w' ⟨rfl, ⟨nd, rfl⟩⟩))
                refine bodyPost_ret (results_ct rfl _ _ w.heap.size 29 #[.int .i64 2, .string (a0.extract 0 n.toNat), .int .i64 0] (0, 0) _ rfl (lex_one.tok3 (by first | exact HL.out.tok | (rw [show (World.drewN W4 _).heap = W4.heap from rfl]; exact HL.out.tok) | simpa using HL.out.tok) _ _ _) Try.underlying29 rfl (by kernel_rfl)) rfl ?_
                refine ⟨rfl, ?_⟩
                exact ((Below.setCell (p := ⟨w.heap.size, 0, none⟩) (pw_below_drewN HB.out _) (Nat.le_refl _) _).setCell (p := ⟨w.heap.size, 1, none⟩) (Nat.le_refl _) _).setCell (p := ⟨w.heap.size, 2, none⟩) (Nat.le_refl _) _
          · rw [if_neg d] at h
            have d1 : decide (n ≤ 40) = false := decide_eq_false d
            simp only [Option.some.injEq, Prod.mk.injEq] at h
            obtain ⟨rfl, rfl, rfl, rfl⟩ := h
            clear d g
            go_enter Try.func18, Try.ntmps18
            go_wp2_with (first | (go_at_call 31; (with_reducible refine (lex_is.calls (bt a0 0) (⟨#[97, 98, 99, 100, 101, 102, 103, 104, 105, 106, 107, 108, 109, 110, 111, 112, 113, 114, 115, 116, 117, 118, 119, 120, 121, 122, 65, 66, 67, 68, 69, 70, 71, 72, 73, 74, 75, 76, 77, 78, 79, 80, 81, 82, 83, 84, 85, 86, 87, 88, 89, 90, 95]⟩ : ByteArray) false _ A1.out).mono ?_); rintro e w' ⟨rfl, ⟨nd, rfl⟩⟩) | (go_at_call 31; (with_reducible refine (lex_is.calls (bt a0 0) (⟨#[48, 49, 50, 51, 52, 53, 54, 55, 56, 57]⟩ : ByteArray) true _ A2.out).mono ?_); rintro e w' ⟨rfl, ⟨nd, rfl⟩⟩) | (go_at_call 33; (with_reducible refine (lex_number.calls k a0 n _ A3.out).mono ?_); rintro e w' ⟨rfl, ⟨nd, rfl⟩⟩))
            refine bodyPost_ret (results_ct rfl _ _ w.heap.size 29 #[.int .i64 0, .string ⟨#[]⟩, .int .i64 0] (0, 0) _ rfl (lex_one.tok3 (by first | exact HL.out.tok | (rw [show (World.drewN W4 _).heap = W4.heap from rfl]; exact HL.out.tok) | simpa using HL.out.tok) _ _ _) Try.underlying29 rfl (by kernel_rfl)) rfl ?_
            refine ⟨rfl, ?_⟩
            exact ((Below.setCell (p := ⟨w.heap.size, 0, none⟩) (pw_below_drewN HB.out _) (Nat.le_refl _) _).setCell (p := ⟨w.heap.size, 1, none⟩) (Nat.le_refl _) _).setCell (p := ⟨w.heap.size, 2, none⟩) (Nat.le_refl _) _
        · rw [if_neg g] at h; exact absurd h (by simp)
      | false =>
        rw [if_neg (by decide)] at h
        by_cases c : bt a0 0 = 39
        · rw [if_pos c] at h
          have x1 : decide (bt a0 0 = 39) = true := decide_eq_true c
          have x2 : (bt a0 0 == 39) = true := by simpa using c
          replace h := Option.bind_eq_some_iff.mp h
          obtain ⟨q, B_, h⟩ := h
          have A3 := Aside0.mk B_
          clear B_
          by_cases d : 0 < q.2
          · rw [if_pos d] at h
            have d1 : decide (0 < q.2) = true := decide_eq_true d
            have d2 : decide (q.2 > 0) = true := decide_eq_true d
            by_cases y : q.1.size ≤ 256
            · rw [if_pos y] at h
              have y1 : decide ((q.1.size : Int) ≤ 256) = true := decide_eq_true (by omega)
              simp only [Option.some.injEq, Prod.mk.injEq] at h
              obtain ⟨rfl, rfl, rfl, rfl⟩ := h
              clear c d y
              go_enter Try.func18, Try.ntmps18
              go_wp2_with (first | (go_at_call 31; (with_reducible refine (lex_is.calls (bt a0 0) (⟨#[97, 98, 99, 100, 101, 102, 103, 104, 105, 106, 107, 108, 109, 110, 111, 112, 113, 114, 115, 116, 117, 118, 119, 120, 121, 122, 65, 66, 67, 68, 69, 70, 71, 72, 73, 74, 75, 76, 77, 78, 79, 80, 81, 82, 83, 84, 85, 86, 87, 88, 89, 90, 95]⟩ : ByteArray) false _ A1.out).mono ?_); rintro e w' ⟨rfl, ⟨nd, rfl⟩⟩) | (go_at_call 31; (with_reducible refine (lex_is.calls (bt a0 0) (⟨#[48, 49, 50, 51, 52, 53, 54, 55, 56, 57]⟩ : ByteArray) false _ A2.out).mono ?_); rintro e w' ⟨rfl, ⟨nd, rfl⟩⟩) | (go_at_call 34; (with_reducible refine (lex_quoted.calls a0 q _ A3.out).mono ?_); rintro e w5 ⟨rfl, hb⟩; have tk := lex_one.keep HL.out (by first | rfl | simp) hb; have hb5 : Below w.heap.size w w5 := Below.trans (pw_below_drewN HB.out _) (hb.mono (by show w.heap.size ≤ W4.heap.size; have := HL.out.size; omega)); obtain ⟨d0_, d1_, d2_, g0_, g1_, g2_⟩ := lex_one.facts tk))
              refine bodyPost_ret (results_ct rfl _ _ w.heap.size 29 #[.int .i64 3, .string q.1, .int .i64 0] (0, 0) _ rfl (lex_one.tok3 tk _ _ _) Try.underlying29 rfl (by kernel_rfl)) rfl ?_
              refine ⟨rfl, ?_⟩
              exact ((Below.setCell (p := ⟨w.heap.size, 0, none⟩) hb5 (Nat.le_refl _) _).setCell (p := ⟨w.heap.size, 1, none⟩) (Nat.le_refl _) _).setCell (p := ⟨w.heap.size, 2, none⟩) (Nat.le_refl _) _
            · rw [if_neg y] at h
              have y1 : decide ((q.1.size : Int) ≤ 256) = false := decide_eq_false (by omega)
              simp only [Option.some.injEq, Prod.mk.injEq] at h
              obtain ⟨rfl, rfl, rfl, rfl⟩ := h
              clear c d y
              go_enter Try.func18, Try.ntmps18
              go_wp2_with (first | (go_at_call 31; (with_reducible refine (lex_is.calls (bt a0 0) (⟨#[97, 98, 99, 100, 101, 102, 103, 104, 105, 106, 107, 108, 109, 110, 111, 112, 113, 114, 115, 116, 117, 118, 119, 120, 121, 122, 65, 66, 67, 68, 69, 70, 71, 72, 73, 74, 75, 76, 77, 78, 79, 80, 81, 82, 83, 84, 85, 86, 87, 88, 89, 90, 95]⟩ : ByteArray) false _ A1.out).mono ?_); rintro e w' ⟨rfl, ⟨nd, rfl⟩⟩) | (go_at_call 31; (with_reducible refine (lex_is.calls (bt a0 0) (⟨#[48, 49, 50, 51, 52, 53, 54, 55, 56, 57]⟩ : ByteArray) false _ A2.out).mono ?_); rintro e w' ⟨rfl, ⟨nd, rfl⟩⟩) | (go_at_call 34; (with_reducible refine (lex_quoted.calls a0 q _ A3.out).mono ?_); rintro e w5 ⟨rfl, hb⟩; have tk := lex_one.keep HL.out (by first | rfl | simp) hb; have hb5 : Below w.heap.size w w5 := Below.trans (pw_below_drewN HB.out _) (hb.mono (by show w.heap.size ≤ W4.heap.size; have := HL.out.size; omega)); obtain ⟨d0_, d1_, d2_, g0_, g1_, g2_⟩ := lex_one.facts tk))
              refine bodyPost_ret (results_ct rfl _ _ w.heap.size 29 #[.int .i64 0, .string ⟨#[]⟩, .int .i64 0] (0, 0) _ rfl (lex_one.tok3 tk _ _ _) Try.underlying29 rfl (by kernel_rfl)) rfl ?_
              refine ⟨rfl, ?_⟩
              exact ((Below.setCell (p := ⟨w.heap.size, 0, none⟩) hb5 (Nat.le_refl _) _).setCell (p := ⟨w.heap.size, 1, none⟩) (Nat.le_refl _) _).setCell (p := ⟨w.heap.size, 2, none⟩) (Nat.le_refl _) _
          · rw [if_neg d] at h
            have d1 : decide (0 < q.2) = false := decide_eq_false d
            have d2 : decide (q.2 > 0) = false := decide_eq_false d
            simp only [Option.some.injEq, Prod.mk.injEq] at h
            obtain ⟨rfl, rfl, rfl, rfl⟩ := h
            clear c d
            go_enter Try.func18, Try.ntmps18
            go_wp2_with (first | (go_at_call 31; (with_reducible refine (lex_is.calls (bt a0 0) (⟨#[97, 98, 99, 100, 101, 102, 103, 104, 105, 106, 107, 108, 109, 110, 111, 112, 113, 114, 115, 116, 117, 118, 119, 120, 121, 122, 65, 66, 67, 68, 69, 70, 71, 72, 73, 74, 75, 76, 77, 78, 79, 80, 81, 82, 83, 84, 85, 86, 87, 88, 89, 90, 95]⟩ : ByteArray) false _ A1.out).mono ?_); rintro e w' ⟨rfl, ⟨nd, rfl⟩⟩) | (go_at_call 31; (with_reducible refine (lex_is.calls (bt a0 0) (⟨#[48, 49, 50, 51, 52, 53, 54, 55, 56, 57]⟩ : ByteArray) false _ A2.out).mono ?_); rintro e w' ⟨rfl, ⟨nd, rfl⟩⟩) | (go_at_call 34; (with_reducible refine (lex_quoted.calls a0 q _ A3.out).mono ?_); rintro e w5 ⟨rfl, hb⟩; have tk := lex_one.keep HL.out (by first | rfl | simp) hb; have hb5 : Below w.heap.size w w5 := Below.trans (pw_below_drewN HB.out _) (hb.mono (by show w.heap.size ≤ W4.heap.size; have := HL.out.size; omega)); obtain ⟨d0_, d1_, d2_, g0_, g1_, g2_⟩ := lex_one.facts tk))
            refine bodyPost_ret (results_ct rfl _ _ w.heap.size 29 #[.int .i64 0, .string ⟨#[]⟩, .int .i64 0] (0, 0) _ rfl (lex_one.tok3 tk _ _ _) Try.underlying29 rfl (by kernel_rfl)) rfl ?_
            refine ⟨rfl, ?_⟩
            exact ((Below.setCell (p := ⟨w.heap.size, 0, none⟩) hb5 (Nat.le_refl _) _).setCell (p := ⟨w.heap.size, 1, none⟩) (Nat.le_refl _) _).setCell (p := ⟨w.heap.size, 2, none⟩) (Nat.le_refl _) _
        · rw [if_neg c] at h
          have x1 : decide (bt a0 0 = 39) = false := decide_eq_false c
          have x2 : (bt a0 0 == 39) = false := by simpa using c
          have lk := fun m => lex_one.look (W4.drewN m) _ (a0.extract 0 2) (show (W4.drewN m).heap[w.heap.size + 1]? = _ from HL.out.map)
          by_cases z : 1 < a0.size ∧ lex_one.tw (a0.extract 0 2) = true
          · rw [if_pos z] at h
            obtain ⟨z1, z2⟩ := z
            rw [z2] at lk
            have z3 : decide (1 < (a0.size : Int)) = true := decide_eq_true (by omega)
            have z4 : decide ((a0.size : Int) > 1) = true := decide_eq_true (by omega)
            have z5 := eq_true (show (2 : Int) ≤ (a0.size : Int) by omega)
            have z6 := eq_true (show 2 ≤ a0.size by omega)
            simp only [Option.some.injEq, Prod.mk.injEq] at h
            obtain ⟨rfl, rfl, rfl, rfl⟩ := h
            clear c z1
            go_enter Try.func18, Try.ntmps18
            go_wp2_with (first | (go_at_call 31; (with_reducible refine (lex_is.calls (bt a0 0) (⟨#[97, 98, 99, 100, 101, 102, 103, 104, 105, 106, 107, 108, 109, 110, 111, 112, 113, 114, 115, 116, 117, 118, 119, 120, 121, 122, 65, 66, 67, 68, 69, 70, 71, 72, 73, 74, 75, 76, 77, 78, 79, 80, 81, 82, 83, 84, 85, 86, 87, 88, 89, 90, 95]⟩ : ByteArray) false _ A1.out).mono ?_); rintro e w' ⟨rfl, ⟨nd, rfl⟩⟩) | (go_at_call 31; (with_reducible refine (lex_is.calls (bt a0 0) (⟨#[48, 49, 50, 51, 52, 53, 54, 55, 56, 57]⟩ : ByteArray) false _ A2.out).mono ?_); rintro e w' ⟨rfl, ⟨nd, rfl⟩⟩))
            refine bodyPost_ret (results_ct rfl _ _ w.heap.size 29 #[.int .i64 4, .string (a0.extract 0 2), .int .i64 0] (0, 0) _ rfl (lex_one.tok3 (by first | exact HL.out.tok | (rw [show (World.drewN W4 _).heap = W4.heap from rfl]; exact HL.out.tok) | simpa using HL.out.tok) _ _ _) Try.underlying29 rfl (by kernel_rfl)) rfl ?_
            refine ⟨rfl, ?_⟩
            exact ((Below.setCell (p := ⟨w.heap.size, 0, none⟩) (pw_below_drewN HB.out _) (Nat.le_refl _) _).setCell (p := ⟨w.heap.size, 1, none⟩) (Nat.le_refl _) _).setCell (p := ⟨w.heap.size, 2, none⟩) (Nat.le_refl _) _
          · rw [if_neg z] at h
            replace h := Option.bind_eq_some_iff.mp h
            obtain ⟨t4, B_, h⟩ := h
            have A3 := Aside0.mk B_
            clear B_
            have o1 := eq_true (show (1 : Int) ≤ (a0.size : Int) by have := HS.out; omega)
            have o2 := eq_true (show 1 ≤ a0.size by have := HS.out; omega)
            by_cases z1 : 1 < a0.size
            · have z3 : decide (1 < (a0.size : Int)) = true := decide_eq_true (by omega)
              have z4 : decide ((a0.size : Int) > 1) = true := decide_eq_true (by omega)
              have z2 : lex_one.tw (a0.extract 0 2) = false := by
                cases e : lex_one.tw (a0.extract 0 2) with
                | false => rfl
                | true => exact absurd ⟨z1, e⟩ z
              rw [z2] at lk
              have z5 := eq_true (show (2 : Int) ≤ (a0.size : Int) by omega)
              have z6 := eq_true (show 2 ≤ a0.size by omega)
              clear c z1 z
              cases t4 with
              | true =>
                rw [if_pos rfl] at h
                simp only [Option.some.injEq, Prod.mk.injEq] at h
                obtain ⟨rfl, rfl, rfl, rfl⟩ := h
                go_enter Try.func18, Try.ntmps18
                go_wp2_with (first | (go_at_call 31; (with_reducible refine (lex_is.calls (bt a0 0) (⟨#[97, 98, 99, 100, 101, 102, 103, 104, 105, 106, 107, 108, 109, 110, 111, 112, 113, 114, 115, 116, 117, 118, 119, 120, 121, 122, 65, 66, 67, 68, 69, 70, 71, 72, 73, 74, 75, 76, 77, 78, 79, 80, 81, 82, 83, 84, 85, 86, 87, 88, 89, 90, 95]⟩ : ByteArray) false _ A1.out).mono ?_); rintro e w' ⟨rfl, ⟨nd, rfl⟩⟩) | (go_at_call 31; (with_reducible refine (lex_is.calls (bt a0 0) (⟨#[48, 49, 50, 51, 52, 53, 54, 55, 56, 57]⟩ : ByteArray) false _ A2.out).mono ?_); rintro e w' ⟨rfl, ⟨nd, rfl⟩⟩) | (go_at_call 31; (with_reducible refine (lex_is.calls (bt a0 0) (⟨#[40, 41, 44, 46, 59, 42, 43, 45, 47, 37, 61, 60, 62]⟩ : ByteArray) true _ A3.out).mono ?_); rintro e w' ⟨rfl, ⟨nd, rfl⟩⟩))
                refine bodyPost_ret (results_ct rfl _ _ w.heap.size 29 #[.int .i64 4, .string (a0.extract 0 1), .int .i64 0] (0, 0) _ rfl (lex_one.tok3 (by first | exact HL.out.tok | (rw [show (World.drewN W4 _).heap = W4.heap from rfl]; exact HL.out.tok) | simpa using HL.out.tok) _ _ _) Try.underlying29 rfl (by kernel_rfl)) rfl ?_
                refine ⟨rfl, ?_⟩
                exact ((Below.setCell (p := ⟨w.heap.size, 0, none⟩) (pw_below_drewN HB.out _) (Nat.le_refl _) _).setCell (p := ⟨w.heap.size, 1, none⟩) (Nat.le_refl _) _).setCell (p := ⟨w.heap.size, 2, none⟩) (Nat.le_refl _) _
              | false =>
                rw [if_neg (by decide)] at h
                simp only [Option.some.injEq, Prod.mk.injEq] at h
                obtain ⟨rfl, rfl, rfl, rfl⟩ := h
                go_enter Try.func18, Try.ntmps18
                go_wp2_with (first | (go_at_call 31; (with_reducible refine (lex_is.calls (bt a0 0) (⟨#[97, 98, 99, 100, 101, 102, 103, 104, 105, 106, 107, 108, 109, 110, 111, 112, 113, 114, 115, 116, 117, 118, 119, 120, 121, 122, 65, 66, 67, 68, 69, 70, 71, 72, 73, 74, 75, 76, 77, 78, 79, 80, 81, 82, 83, 84, 85, 86, 87, 88, 89, 90, 95]⟩ : ByteArray) false _ A1.out).mono ?_); rintro e w' ⟨rfl, ⟨nd, rfl⟩⟩) | (go_at_call 31; (with_reducible refine (lex_is.calls (bt a0 0) (⟨#[48, 49, 50, 51, 52, 53, 54, 55, 56, 57]⟩ : ByteArray) false _ A2.out).mono ?_); rintro e w' ⟨rfl, ⟨nd, rfl⟩⟩) | (go_at_call 31; (with_reducible refine (lex_is.calls (bt a0 0) (⟨#[40, 41, 44, 46, 59, 42, 43, 45, 47, 37, 61, 60, 62]⟩ : ByteArray) false _ A3.out).mono ?_); rintro e w' ⟨rfl, ⟨nd, rfl⟩⟩))
                refine bodyPost_ret (results_ct rfl _ _ w.heap.size 29 #[.int .i64 0, .string ⟨#[]⟩, .int .i64 0] (0, 0) _ rfl (lex_one.tok3 (by first | exact HL.out.tok | (rw [show (World.drewN W4 _).heap = W4.heap from rfl]; exact HL.out.tok) | simpa using HL.out.tok) _ _ _) Try.underlying29 rfl (by kernel_rfl)) rfl ?_
                refine ⟨rfl, ?_⟩
                exact ((Below.setCell (p := ⟨w.heap.size, 0, none⟩) (pw_below_drewN HB.out _) (Nat.le_refl _) _).setCell (p := ⟨w.heap.size, 1, none⟩) (Nat.le_refl _) _).setCell (p := ⟨w.heap.size, 2, none⟩) (Nat.le_refl _) _
            · have z3 : decide (1 < (a0.size : Int)) = false := decide_eq_false (by omega)
              have z4 : decide ((a0.size : Int) > 1) = false := decide_eq_false (by omega)
              clear c z1 z
              cases t4 with
              | true =>
                rw [if_pos rfl] at h
                simp only [Option.some.injEq, Prod.mk.injEq] at h
                obtain ⟨rfl, rfl, rfl, rfl⟩ := h
                go_enter Try.func18, Try.ntmps18
                go_wp2_with (first | (go_at_call 31; (with_reducible refine (lex_is.calls (bt a0 0) (⟨#[97, 98, 99, 100, 101, 102, 103, 104, 105, 106, 107, 108, 109, 110, 111, 112, 113, 114, 115, 116, 117, 118, 119, 120, 121, 122, 65, 66, 67, 68, 69, 70, 71, 72, 73, 74, 75, 76, 77, 78, 79, 80, 81, 82, 83, 84, 85, 86, 87, 88, 89, 90, 95]⟩ : ByteArray) false _ A1.out).mono ?_); rintro e w' ⟨rfl, ⟨nd, rfl⟩⟩) | (go_at_call 31; (with_reducible refine (lex_is.calls (bt a0 0) (⟨#[48, 49, 50, 51, 52, 53, 54, 55, 56, 57]⟩ : ByteArray) false _ A2.out).mono ?_); rintro e w' ⟨rfl, ⟨nd, rfl⟩⟩) | (go_at_call 31; (with_reducible refine (lex_is.calls (bt a0 0) (⟨#[40, 41, 44, 46, 59, 42, 43, 45, 47, 37, 61, 60, 62]⟩ : ByteArray) true _ A3.out).mono ?_); rintro e w' ⟨rfl, ⟨nd, rfl⟩⟩))
                refine bodyPost_ret (results_ct rfl _ _ w.heap.size 29 #[.int .i64 4, .string (a0.extract 0 1), .int .i64 0] (0, 0) _ rfl (lex_one.tok3 (by first | exact HL.out.tok | (rw [show (World.drewN W4 _).heap = W4.heap from rfl]; exact HL.out.tok) | simpa using HL.out.tok) _ _ _) Try.underlying29 rfl (by kernel_rfl)) rfl ?_
                refine ⟨rfl, ?_⟩
                exact ((Below.setCell (p := ⟨w.heap.size, 0, none⟩) (pw_below_drewN HB.out _) (Nat.le_refl _) _).setCell (p := ⟨w.heap.size, 1, none⟩) (Nat.le_refl _) _).setCell (p := ⟨w.heap.size, 2, none⟩) (Nat.le_refl _) _
              | false =>
                rw [if_neg (by decide)] at h
                simp only [Option.some.injEq, Prod.mk.injEq] at h
                obtain ⟨rfl, rfl, rfl, rfl⟩ := h
                go_enter Try.func18, Try.ntmps18
                go_wp2_with (first | (go_at_call 31; (with_reducible refine (lex_is.calls (bt a0 0) (⟨#[97, 98, 99, 100, 101, 102, 103, 104, 105, 106, 107, 108, 109, 110, 111, 112, 113, 114, 115, 116, 117, 118, 119, 120, 121, 122, 65, 66, 67, 68, 69, 70, 71, 72, 73, 74, 75, 76, 77, 78, 79, 80, 81, 82, 83, 84, 85, 86, 87, 88, 89, 90, 95]⟩ : ByteArray) false _ A1.out).mono ?_); rintro e w' ⟨rfl, ⟨nd, rfl⟩⟩) | (go_at_call 31; (with_reducible refine (lex_is.calls (bt a0 0) (⟨#[48, 49, 50, 51, 52, 53, 54, 55, 56, 57]⟩ : ByteArray) false _ A2.out).mono ?_); rintro e w' ⟨rfl, ⟨nd, rfl⟩⟩) | (go_at_call 31; (with_reducible refine (lex_is.calls (bt a0 0) (⟨#[40, 41, 44, 46, 59, 42, 43, 45, 47, 37, 61, 60, 62]⟩ : ByteArray) false _ A3.out).mono ?_); rintro e w' ⟨rfl, ⟨nd, rfl⟩⟩))
                refine bodyPost_ret (results_ct rfl _ _ w.heap.size 29 #[.int .i64 0, .string ⟨#[]⟩, .int .i64 0] (0, 0) _ rfl (lex_one.tok3 (by first | exact HL.out.tok | (rw [show (World.drewN W4 _).heap = W4.heap from rfl]; exact HL.out.tok) | simpa using HL.out.tok) _ _ _) Try.underlying29 rfl (by kernel_rfl)) rfl ?_
                refine ⟨rfl, ?_⟩
                exact ((Below.setCell (p := ⟨w.heap.size, 0, none⟩) (pw_below_drewN HB.out _) (Nat.le_refl _) _).setCell (p := ⟨w.heap.size, 1, none⟩) (Nat.le_refl _) _).setCell (p := ⟨w.heap.size, 2, none⟩) (Nat.le_refl _) _
  · rw [if_neg hs] at h; exact absurd h (by simp)


end Go.Proofs.Ytmpamcfeijnafaa.R
