/- PRINTED BY A PROGRAM OF THIS SESSION (px.py, over the kit's print): Lean functions with the answers of Go functions of the given program, and proofs that the Go code comes to these answers; each under the conditions that its theorem states. -/
import Derived.Test.YtmpamcfeijnafaaDoorS0
import Derived.Test.YtmpamcfeijnafaaDoorS1
import Derived.Test.YtmpamcfeijnafaaDoorS2
namespace Go.Proofs.YtmpamcfeijnafaaDoor.S
open Go.RowKit Go.Proofs.YtmpamcfeijnafaaDoorW.PrintWords Go.Proofs.YtmpamcfeijnafaaDoorW.PrintLast Go.Proofs.YtmpamcfeijnafaaDoorW.PrintMore
attribute [local go_sem] max2_int min2_int max_two min_two max_three min_three max_four min_four   -- for this text's walks alone
set_option linter.unusedVariables false
set_option linter.unusedSimpArgs false

attribute [local go_sem high] eqA25
/-! ### lex_one: function 26, by hand -/
/-- one of the four signs of two letters -/
def lex_one.tw (t : ByteArray) : Bool := (t == (⟨#[60, 61]⟩ : ByteArray)) || (t == (⟨#[62, 61]⟩ : ByteArray)) || (t == (⟨#[60, 62]⟩ : ByteArray)) || (t == (⟨#[124, 124]⟩ : ByteArray))
def lex_one.f (k : Nat) (a0 : ByteArray) : Option (Int × ByteArray × Int × Int) :=
  if 0 < a0.size ∧ a0.size ≤ 140737488351232 then (lex_is.f (bt a0 0) (⟨#[97, 98, 99, 100, 101, 102, 103, 104, 105, 106, 107, 108, 109, 110, 111, 112, 113, 114, 115, 116, 117, 118, 119, 120, 121, 122, 65, 66, 67, 68, 69, 70, 71, 72, 73, 74, 75, 76, 77, 78, 79, 80, 81, 82, 83, 84, 85, 86, 87, 88, 89, 90, 95]⟩ : ByteArray)).bind fun t1 =>
    (if t1 = true then (lex_run.f k a0 (⟨#[97, 98, 99, 100, 101, 102, 103, 104, 105, 106, 107, 108, 109, 110, 111, 112, 113, 114, 115, 116, 117, 118, 119, 120, 121, 122, 65, 66, 67, 68, 69, 70, 71, 72, 73, 74, 75, 76, 77, 78, 79, 80, 81, 82, 83, 84, 85, 86, 87, 88, 89, 90, 95, 48, 49, 50, 51, 52, 53, 54, 55, 56, 57]⟩ : ByteArray)).bind fun n => (if n ≤ 32 then (if 0 ≤ n ∧ n ≤ (a0.size : Int) then (lex_small.f (a0.extract 0 n.toNat)).bind fun t => some (1, t, 0, n) else none) else some (0, ⟨#[]⟩, 0, 0))
    else (lex_is.f (bt a0 0) (⟨#[48, 49, 50, 51, 52, 53, 54, 55, 56, 57]⟩ : ByteArray)).bind fun t2 =>
    (if t2 = true then (lex_number.f k a0).bind fun n => (if 0 ≤ n ∧ n ≤ (a0.size : Int) then (if n ≤ 40 then (if n = (a0.size : Int) then some (2, a0.extract 0 n.toNat, 0, n) else (lex_is.f (bt a0 n) (⟨#[97, 98, 99, 100, 101, 102, 103, 104, 105, 106, 107, 108, 109, 110, 111, 112, 113, 114, 115, 116, 117, 118, 119, 120, 121, 122, 65, 66, 67, 68, 69, 70, 71, 72, 73, 74, 75, 76, 77, 78, 79, 80, 81, 82, 83, 84, 85, 86, 87, 88, 89, 90, 95]⟩ : ByteArray)).bind fun t3 => (if t3 = true then some (0, ⟨#[]⟩, 0, 0) else some (2, a0.extract 0 n.toNat, 0, n))) else some (0, ⟨#[]⟩, 0, 0)) else none)
    else (if bt a0 0 = 39 then (lex_quoted.f a0).bind fun q => (if 0 < q.2 then (if q.1.size ≤ 256 then some (3, q.1, 0, q.2) else some (0, ⟨#[]⟩, 0, 0)) else some (0, ⟨#[]⟩, 0, 0))
    else (if 1 < a0.size ∧ lex_one.tw (a0.extract 0 2) = true then some (4, a0.extract 0 2, 0, 2)
    else (lex_is.f (bt a0 0) (⟨#[40, 41, 44, 46, 59, 42, 43, 45, 47, 37, 61, 60, 62]⟩ : ByteArray)).bind fun t4 => (if t4 = true then some (4, a0.extract 0 1, 0, 1) else some (0, ⟨#[]⟩, 0, 0)))))) else none
theorem lex_one.mono : ∀ a0 k, LeO (lex_one.f k a0) (lex_one.f (k + 1) a0) := by
  intro a0 k
  unfold lex_one.f
  repeat' first
      | (with_reducible exact lex_run.mono _ _ _)
      | (with_reducible exact lex_number.mono _ _)
      | (with_reducible exact LeO.refl _)
      | (with_reducible exact LeO.none _)
      | (with_reducible refine LeO.ite ?_ ?_)
      | (with_reducible refine LeO.bind ?_ (fun _ => ?_))
/-- the world with a map's new entries -/
def lex_one.put (W : World) (r : Nat) (es : Array MapEntry) (c : Nat) : World := { W with heap := W.heap.setIfInBounds r (.map es c) }
theorem lex_one.put_run (W : World) (r c : Nat) (es : Array MapEntry) (s : ByteArray) (hb : W.heap[r]? = some (.map es c)) (hf : Instr.findNow .string (.string s) es.toList 0 = some none) :
    (Instr.mapUpdate 68 (.map (some r)) (.string s) (.bool true)).run Tryd.prog W = .ok () (lex_one.put W r (es.push { key := .string s, val := .bool true, born := c }) (c + 1)) := by
  have hc : (Instr.checkKey false 10000 9 (.string s)).run Tryd.prog W = .ok () W := MapKept.run_checkKey (k := .string s) Tryd.underlying9 (by simp [MapKept.IsKey]) false 9999
  simp [Instr.mapUpdate, run_underlying Tryd.underlying68, MapKept.run_getObj_map hb, hc, MapKept.run_findKey Tryd.underlying9 hf, MapKept.run_setObj_map _ hb, Result.andThen, lex_one.put]
theorem lex_one.put_at {W : World} {r : Nat} {o : Obj} (es : Array MapEntry) (c : Nat) (hb : W.heap[r]? = some o) : (lex_one.put W r es c).heap[r]? = some (.map es c) ∧ (∀ j, j ≠ r → (lex_one.put W r es c).heap[j]? = W.heap[j]?) ∧ (lex_one.put W r es c).heap.size = W.heap.size := by
  have h := MapKept.heap_set (o' := .map es c) hb
  exact ⟨h.1, h.2, by simp [lex_one.put]⟩
def lex_one.en (s : ByteArray) (c : Nat) : MapEntry := { key := .string s, val := .bool true, born := c }
def lex_one.all : Array MapEntry := #[lex_one.en ⟨#[60, 61]⟩ 0, lex_one.en ⟨#[62, 61]⟩ 1, lex_one.en ⟨#[60, 62]⟩ 2, lex_one.en ⟨#[124, 124]⟩ 3]
theorem lex_one.look (W : World) (r : Nat) (t : ByteArray) (hb : W.heap[r]? = some (.map lex_one.all 4)) : (Instr.lookup 68 (.map (some r)) (.string t) false).run Tryd.prog W = .ok (.bool (lex_one.tw t)) W := by
  have hc : ∀ b, (Instr.checkKey b 10000 9 (.string t)).run Tryd.prog W = .ok () W := fun b => MapKept.run_checkKey (k := .string t) Tryd.underlying9 (by simp [MapKept.IsKey]) b 9999
  unfold lex_one.tw
  cases h1 : (t == (⟨#[60, 61]⟩ : ByteArray)) <;> cases h2 : (t == (⟨#[62, 61]⟩ : ByteArray)) <;> cases h3 : (t == (⟨#[60, 62]⟩ : ByteArray)) <;> cases h4 : (t == (⟨#[124, 124]⟩ : ByteArray)) <;>
  · have hf : ∃ x, Instr.findNow .string (.string t) lex_one.all.toList 0 = some x := by
      simp [lex_one.all, lex_one.en, Instr.findNow, Instr.sameNow, h1, h2, h3, h4]
    obtain ⟨x, hf⟩ := hf
    have hf2 := hf
    simp [lex_one.all, lex_one.en, Instr.findNow, Instr.sameNow, h1, h2, h3, h4] at hf2
    subst hf2
    simp [Instr.lookup, run_underlying Tryd.underlying68, MapKept.run_getObj_map hb, hc, MapKept.run_findKey Tryd.underlying9 hf, Tryd.zeroValue4, Result.andThen]
/-- the world behind the literal -/
structure lex_one.Laid (w W : World) : Prop where
  below : Below w.heap.size w W
  map : W.heap[w.heap.size + 1]? = some (.map lex_one.all 4)
  tok : W.heap[w.heap.size]? = some (.cells #[.int .i64 0, .string ⟨#[]⟩, .int .i64 0] 25 (0, 0))
  size : W.heap.size = w.heap.size + 2
theorem lex_one.lays (w : World) : ∃ W1 W2 W3 W4 : World, lex_one.Laid w W4 ∧
    (Instr.mapUpdate 68 (.map (some (w.heap.size + 1))) (.string ⟨#[60, 61]⟩) (.bool true)).run Tryd.prog ((w.alloc (.cells #[.int .i64 0, .string ⟨#[]⟩, .int .i64 0] 25)).alloc (.map #[] 0)) = .ok () W1 ∧
    (Instr.mapUpdate 68 (.map (some (w.heap.size + 1))) (.string ⟨#[62, 61]⟩) (.bool true)).run Tryd.prog W1 = .ok () W2 ∧
    (Instr.mapUpdate 68 (.map (some (w.heap.size + 1))) (.string ⟨#[60, 62]⟩) (.bool true)).run Tryd.prog W2 = .ok () W3 ∧
    (Instr.mapUpdate 68 (.map (some (w.heap.size + 1))) (.string ⟨#[124, 124]⟩) (.bool true)).run Tryd.prog W3 = .ok () W4 := by
  obtain ⟨W0, e0⟩ : ∃ W0, W0 = (w.alloc (.cells #[.int .i64 0, .string ⟨#[]⟩, .int .i64 0] 25)).alloc (.map #[] 0) := ⟨_, rfl⟩
  have s0 : W0.heap.size = w.heap.size + 2 := by rw [e0]; simp
  have g1 := MapKept.heap_alloc w (.cells #[.int .i64 0, .string ⟨#[]⟩, .int .i64 0] 25)
  have g2 := MapKept.heap_alloc (w.alloc (.cells #[.int .i64 0, .string ⟨#[]⟩, .int .i64 0] 25)) (.map #[] 0)
  have g3 : (w.alloc (.cells #[.int .i64 0, .string ⟨#[]⟩, .int .i64 0] 25)).heap.size = w.heap.size + 1 := by simp
  have m0 : W0.heap[w.heap.size + 1]? = some (.map #[] 0) := by rw [e0, ← g3]; exact g2.1
  have t0 : W0.heap[w.heap.size]? = some (.cells #[.int .i64 0, .string ⟨#[]⟩, .int .i64 0] 25 (0, 0)) := by rw [e0, g2.2 _ (by omega)]; exact g1.1
  have b0 : Below w.heap.size w W0 := by rw [e0]; exact ((Below.refl _ w).alloc (Nat.le_refl _) _).alloc (by simp) _
  rw [← e0]
  have r1 := lex_one.put_run W0 _ 0 #[] ⟨#[60, 61]⟩ m0 rfl
  obtain ⟨W1, e1⟩ : ∃ W1, W1 = lex_one.put W0 (w.heap.size + 1) #[lex_one.en ⟨#[60, 61]⟩ 0] 1 := ⟨_, rfl⟩
  have a1 := lex_one.put_at #[lex_one.en ⟨#[60, 61]⟩ 0] 1 m0
  have r2 := lex_one.put_run _ _ 1 #[lex_one.en ⟨#[60, 61]⟩ 0] ⟨#[62, 61]⟩ a1.1 rfl
  have a2 := lex_one.put_at #[lex_one.en ⟨#[60, 61]⟩ 0, lex_one.en ⟨#[62, 61]⟩ 1] 2 a1.1
  have r3 := lex_one.put_run _ _ 2 #[lex_one.en ⟨#[60, 61]⟩ 0, lex_one.en ⟨#[62, 61]⟩ 1] ⟨#[60, 62]⟩ a2.1 rfl
  have a3 := lex_one.put_at #[lex_one.en ⟨#[60, 61]⟩ 0, lex_one.en ⟨#[62, 61]⟩ 1, lex_one.en ⟨#[60, 62]⟩ 2] 3 a2.1
  have r4 := lex_one.put_run _ _ 3 #[lex_one.en ⟨#[60, 61]⟩ 0, lex_one.en ⟨#[62, 61]⟩ 1, lex_one.en ⟨#[60, 62]⟩ 2] ⟨#[124, 124]⟩ a3.1 rfl
  have a4 := lex_one.put_at lex_one.all 4 a3.1
  have bel : ∀ {V : World} (es : Array MapEntry) (c : Nat), Below w.heap.size w V → V.heap.size = w.heap.size + 2 → Below w.heap.size w (lex_one.put V (w.heap.size + 1) es c) := fun es c h hs =>
    ⟨h.os, h.tape, h.output, by have := h.size; simp only [lex_one.put, Array.size_setIfInBounds]; exact this, fun j hj => by
      rw [← h.block j hj]
      simp only [lex_one.put]
      rw [Array.getElem?_setIfInBounds_ne (by omega)]⟩
  have s1 := a1.2.2.trans s0
  have s2 := a2.2.2.trans s1
  have s3 := a3.2.2.trans s2
  have s4 := a4.2.2.trans s3
  refine ⟨_, _, _, _, ⟨bel _ _ (bel _ _ (bel _ _ (bel _ _ b0 s0) s1) s2) s3, a4.1, ?_, s4⟩, r1, r2, r3, r4⟩
  rw [a4.2.1 _ (by omega), a3.2.1 _ (by omega), a2.2.1 _ (by omega), a1.2.1 _ (by omega)]
  exact t0
theorem lex_one.tok3 {w : World} {b : Nat} {u v x : Value} (h : w.heap[b]? = some (.cells #[u, v, x] 25 (0, 0))) (p q r : Value) : (((w.setCell ⟨b, 0, none⟩ p).setCell ⟨b, 1, none⟩ q).setCell ⟨b, 2, none⟩ r).heap[b]? = some (.cells #[p, q, r] 25 (0, 0)) :=
  blk_put (blk_put (blk_put h 0 p rfl) 1 q rfl) 2 r rfl
theorem lex_one.keep {w W V V' : World} (h : lex_one.Laid w W) (hV : V.heap = W.heap) (hb : Below V.heap.size V V') : V'.heap[w.heap.size]? = some (.cells #[.int .i64 0, .string ⟨#[]⟩, .int .i64 0] 25 (0, 0)) := by
  rw [hb.block _ (by rw [hV, h.size]; omega), hV]
  exact h.tok
theorem lex_one.facts {W : World} {b : Nat} (h : W.heap[b]? = some (.cells #[.int .i64 0, .string ⟨#[]⟩, .int .i64 0] 25 (0, 0))) :
    W.cell? ⟨b, 0, none⟩ = some (.int .i64 0) ∧ W.cell? ⟨b, 1, none⟩ = some (.string ⟨#[]⟩) ∧ W.cell? ⟨b, 2, none⟩ = some (.int .i64 0) ∧ W.frozen? ⟨b, 0, none⟩ = false ∧ W.frozen? ⟨b, 1, none⟩ = false ∧ W.frozen? ⟨b, 2, none⟩ = false :=
  ⟨by rw [Lib.cell_of_heap h]; rfl, by rw [Lib.cell_of_heap h]; rfl, by rw [Lib.cell_of_heap h]; rfl, Lib.frozen_of_heap h 0, Lib.frozen_of_heap h 1, Lib.frozen_of_heap h 2⟩
set_option maxHeartbeats 8000000 in
set_option maxRecDepth 100000 in
theorem lex_one.calls (k : Nat) (a0 : ByteArray) (r1 : Int) (r2 : ByteArray) (r3 r4 : Int) (w : World) (h : lex_one.f k a0 = some (r1, r2, r3, r4)) :
    Calls Tryd.prog 26 #[.string a0] w fun e w' => e = .returned (.tuple #[.agg #[.int .i64 r1, .string r2, .int .i64 r3], .int .i64 r4]) ∧ Below w.heap.size w w' := by
  unfold lex_one.f at h
  by_cases hs : 0 < a0.size ∧ a0.size ≤ 140737488351232
  · rw [if_pos hs] at h
    replace h := Option.bind_eq_some_iff.mp h
    obtain ⟨t1, B1, h⟩ := h
    have A1 := Aside0.mk B1
    clear B1
    obtain ⟨W1, W2, W3, W4, HL0, P1, P2, P3, P4⟩ := lex_one.lays w
    have HL := Aside0.mk HL0
    have HB := Aside0.mk HL0.below
    have c0 : W4.cell? ⟨w.heap.size, 0, none⟩ = some (.int .i64 0) := by rw [Lib.cell_of_heap HL0.tok]; rfl
    have c1 : W4.cell? ⟨w.heap.size, 1, none⟩ = some (.string ⟨#[]⟩) := by rw [Lib.cell_of_heap HL0.tok]; rfl
    have c2 : W4.cell? ⟨w.heap.size, 2, none⟩ = some (.int .i64 0) := by rw [Lib.cell_of_heap HL0.tok]; rfl
    have f0 : W4.frozen? ⟨w.heap.size, 0, none⟩ = false := Lib.frozen_of_heap HL0.tok 0
    have f1 : W4.frozen? ⟨w.heap.size, 1, none⟩ = false := Lib.frozen_of_heap HL0.tok 1
    have f2 : W4.frozen? ⟨w.heap.size, 2, none⟩ = false := Lib.frozen_of_heap HL0.tok 2
    clear HL0
    have mm := fun W : World => run_makeMap_plain (P := Tryd.prog) (w := W) 68
    have q0 := eq_true (show (0 : Int) < (a0.size : Int) by omega)
    have q1 := eq_true hs.1
    have hx0 : ∀ h : 0 < a0.size, ((a0[0]'h).toNat : Int) = bt a0 0 := fun h => bt_at a0 0 h
    have HS := Aside0.mk hs
    clear hs
    obtain ⟨v, hv⟩ : ∃ v : Int, v = bt a0 0 := ⟨_, rfl⟩
    cases t1 with
    | true =>
      rw [if_pos rfl] at h
      replace h := Option.bind_eq_some_iff.mp h
      obtain ⟨n, B_, h⟩ := h
      have A2 := Aside0.mk B_
      clear B_
      by_cases d : n ≤ 32
      · rw [if_pos d] at h
        have d1 : decide (n ≤ 32) = true := decide_eq_true d
        by_cases g : 0 ≤ n ∧ n ≤ (a0.size : Int)
        · rw [if_pos g] at h
          have g1 := eq_true g.1
          have g2 := eq_true g.2
          replace h := Option.bind_eq_some_iff.mp h
          obtain ⟨t, B_, h⟩ := h
          have A3 := Aside0.mk B_
          clear B_
          simp only [Option.some.injEq, Prod.mk.injEq] at h
          obtain ⟨rfl, rfl, rfl, rfl⟩ := h
          clear d g
          go_enter Tryd.func26, Tryd.ntmps26
          go_wp2_with (first | (go_at_call 36; (with_reducible refine (lex_is.calls (bt a0 0) (⟨#[97, 98, 99, 100, 101, 102, 103, 104, 105, 106, 107, 108, 109, 110, 111, 112, 113, 114, 115, 116, 117, 118, 119, 120, 121, 122, 65, 66, 67, 68, 69, 70, 71, 72, 73, 74, 75, 76, 77, 78, 79, 80, 81, 82, 83, 84, 85, 86, 87, 88, 89, 90, 95]⟩ : ByteArray) true _ A1.out).mono ?_); rintro e w' ⟨rfl, ⟨nd, rfl⟩⟩) | (go_at_call 33; (with_reducible refine (lex_run.calls k a0 (⟨#[97, 98, 99, 100, 101, 102, 103, 104, 105, 106, 107, 108, 109, 110, 111, 112, 113, 114, 115, 116, 117, 118, 119, 120, 121, 122, 65, 66, 67, 68, 69, 70, 71, 72, 73, 74, 75, 76, 77, 78, 79, 80, 81, 82, 83, 84, 85, 86, 87, 88, 89, 90, 95, 48, 49, 50, 51, 52, 53, 54, 55, 56, 57]⟩ : ByteArray) n _ A2.out).mono ?_); rintro e w' ⟨rfl, ⟨nd, rfl⟩⟩) | (go_at_call 37; (with_reducible refine (lex_small.calls (a0.extract 0 n.toNat) t _ A3.out).mono ?_); rintro e w5 ⟨rfl, hb⟩; have tk := lex_one.keep HL.out (by first | rfl | simp) hb; have hb5 : Below w.heap.size w w5 := Below.trans (pw_below_drewN HB.out _) (hb.mono (by show w.heap.size ≤ W4.heap.size; have := HL.out.size; omega)); obtain ⟨d0_, d1_, d2_, g0_, g1_, g2_⟩ := lex_one.facts tk))
          refine bodyPost_ret (results_ct rfl _ _ w.heap.size 25 #[.int .i64 1, .string t, .int .i64 0] (0, 0) _ rfl (lex_one.tok3 tk _ _ _) Tryd.underlying25 rfl (by kernel_rfl)) rfl ?_
          refine ⟨rfl, ?_⟩
          exact ((Below.setCell (p := ⟨w.heap.size, 0, none⟩) hb5 (Nat.le_refl _) _).setCell (p := ⟨w.heap.size, 1, none⟩) (Nat.le_refl _) _).setCell (p := ⟨w.heap.size, 2, none⟩) (Nat.le_refl _) _
        · rw [if_neg g] at h; exact absurd h (by simp)
      · rw [if_neg d] at h
        simp only [Option.some.injEq, Prod.mk.injEq] at h
        obtain ⟨rfl, rfl, rfl, rfl⟩ := h
        have d1 : decide (n ≤ 32) = false := decide_eq_false d
        clear d
        go_enter Tryd.func26, Tryd.ntmps26
        go_wp2_with (first | (go_at_call 36; (with_reducible refine (lex_is.calls (bt a0 0) (⟨#[97, 98, 99, 100, 101, 102, 103, 104, 105, 106, 107, 108, 109, 110, 111, 112, 113, 114, 115, 116, 117, 118, 119, 120, 121, 122, 65, 66, 67, 68, 69, 70, 71, 72, 73, 74, 75, 76, 77, 78, 79, 80, 81, 82, 83, 84, 85, 86, 87, 88, 89, 90, 95]⟩ : ByteArray) true _ A1.out).mono ?_); rintro e w' ⟨rfl, ⟨nd, rfl⟩⟩) | (go_at_call 33; (with_reducible refine (lex_run.calls k a0 (⟨#[97, 98, 99, 100, 101, 102, 103, 104, 105, 106, 107, 108, 109, 110, 111, 112, 113, 114, 115, 116, 117, 118, 119, 120, 121, 122, 65, 66, 67, 68, 69, 70, 71, 72, 73, 74, 75, 76, 77, 78, 79, 80, 81, 82, 83, 84, 85, 86, 87, 88, 89, 90, 95, 48, 49, 50, 51, 52, 53, 54, 55, 56, 57]⟩ : ByteArray) n _ A2.out).mono ?_); rintro e w' ⟨rfl, ⟨nd, rfl⟩⟩))
        refine bodyPost_ret (results_ct rfl _ _ w.heap.size 25 #[.int .i64 0, .string ⟨#[]⟩, .int .i64 0] (0, 0) _ rfl (lex_one.tok3 (by first | exact HL.out.tok | (rw [show (World.drewN W4 _).heap = W4.heap from rfl]; exact HL.out.tok) | simpa using HL.out.tok) _ _ _) Tryd.underlying25 rfl (by kernel_rfl)) rfl ?_
        refine ⟨rfl, ?_⟩
        exact ((Below.setCell (p := ⟨w.heap.size, 0, none⟩) (pw_below_drewN HB.out _) (Nat.le_refl _) _).setCell (p := ⟨w.heap.size, 1, none⟩) (Nat.le_refl _) _).setCell (p := ⟨w.heap.size, 2, none⟩) (Nat.le_refl _) _
    | false =>
      rw [if_neg (by decide)] at h
      replace h := Option.bind_eq_some_iff.mp h
      obtain ⟨t2, B_, h⟩ := h
      have A2 := Aside0.mk B_
      clear B_
      cases t2 with
      | true =>
        rw [if_pos rfl] at h
        replace h := Option.bind_eq_some_iff.mp h
        obtain ⟨n, B_, h⟩ := h
        have A3 := Aside0.mk B_
        clear B_
        by_cases g : 0 ≤ n ∧ n ≤ (a0.size : Int)
        · rw [if_pos g] at h
          have g1 := eq_true g.1
          have g2 := eq_true g.2
          by_cases d : n ≤ 40
          · rw [if_pos d] at h
            have d1 : decide (n ≤ 40) = true := decide_eq_true d
            by_cases y : n = (a0.size : Int)
            · rw [if_pos y] at h
              have y1 : decide (n = (a0.size : Int)) = true := decide_eq_true y
              have y2 : (n == (a0.size : Int)) = true := by rw [y]; simp
              simp only [Option.some.injEq, Prod.mk.injEq] at h
              obtain ⟨rfl, rfl, rfl, rfl⟩ := h
              clear d y g
              go_enter Tryd.func26, Tryd.ntmps26
              go_wp2_with (first | (go_at_call 36; (with_reducible refine (lex_is.calls (bt a0 0) (⟨#[97, 98, 99, 100, 101, 102, 103, 104, 105, 106, 107, 108, 109, 110, 111, 112, 113, 114, 115, 116, 117, 118, 119, 120, 121, 122, 65, 66, 67, 68, 69, 70, 71, 72, 73, 74, 75, 76, 77, 78, 79, 80, 81, 82, 83, 84, 85, 86, 87, 88, 89, 90, 95]⟩ : ByteArray) false _ A1.out).mono ?_); rintro e w' ⟨rfl, ⟨nd, rfl⟩⟩) | (go_at_call 36; (with_reducible refine (lex_is.calls (bt a0 0) (⟨#[48, 49, 50, 51, 52, 53, 54, 55, 56, 57]⟩ : ByteArray) true _ A2.out).mono ?_); rintro e w' ⟨rfl, ⟨nd, rfl⟩⟩) | (go_at_call 38; (with_reducible refine (lex_number.calls k a0 n _ A3.out).mono ?_); rintro e w' ⟨rfl, ⟨nd, rfl⟩⟩))
              refine bodyPost_ret (results_ct rfl _ _ w.heap.size 25 #[.int .i64 2, .string (a0.extract 0 n.toNat), .int .i64 0] (0, 0) _ rfl (lex_one.tok3 (by first | exact HL.out.tok | (rw [show (World.drewN W4 _).heap = W4.heap from rfl]; exact HL.out.tok) | simpa using HL.out.tok) _ _ _) Tryd.underlying25 rfl (by kernel_rfl)) rfl ?_
              refine ⟨rfl, ?_⟩
              exact ((Below.setCell (p := ⟨w.heap.size, 0, none⟩) (pw_below_drewN HB.out _) (Nat.le_refl _) _).setCell (p := ⟨w.heap.size, 1, none⟩) (Nat.le_refl _) _).setCell (p := ⟨w.heap.size, 2, none⟩) (Nat.le_refl _) _
            · rw [if_neg y] at h
              have y1 : decide (n = (a0.size : Int)) = false := decide_eq_false y
              have y2 : (n == (a0.size : Int)) = false := by simpa using y
              have y3 := eq_true (show n < (a0.size : Int) by omega)
              have y4 := bt_at a0 n
              replace h := Option.bind_eq_some_iff.mp h
              obtain ⟨t3, B_, h⟩ := h
              have A4 := Aside0.mk B_
              clear B_
              cases t3 with
              | true =>
                rw [if_pos rfl] at h
                simp only [Option.some.injEq, Prod.mk.injEq] at h
                obtain ⟨rfl, rfl, rfl, rfl⟩ := h
                clear d y g
                go_enter Tryd.func26, Tryd.ntmps26
                go_wp2_with (first | (go_at_call 36; (with_reducible refine (lex_is.calls (bt a0 0) (⟨#[97, 98, 99, 100, 101, 102, 103, 104, 105, 106, 107, 108, 109, 110, 111, 112, 113, 114, 115, 116, 117, 118, 119, 120, 121, 122, 65, 66, 67, 68, 69, 70, 71, 72, 73, 74, 75, 76, 77, 78, 79, 80, 81, 82, 83, 84, 85, 86, 87, 88, 89, 90, 95]⟩ : ByteArray) false _ A1.out).mono ?_); rintro e w' ⟨rfl, ⟨nd, rfl⟩⟩) | (go_at_call 36; (with_reducible refine (lex_is.calls (bt a0 0) (⟨#[48, 49, 50, 51, 52, 53, 54, 55, 56, 57]⟩ : ByteArray) true _ A2.out).mono ?_); rintro e w' ⟨rfl, ⟨nd, rfl⟩⟩) | (go_at_call 38; (with_reducible refine (lex_number.calls k a0 n _ A3.out).mono ?_); rintro e w' ⟨rfl, ⟨nd, rfl⟩⟩) | (go_at_call 36; (with_reducible refine (lex_is.calls (bt a0 n) (⟨#[97, 98, 99, 100, 101, 102, 103, 104, 105, 106, 107, 108, 109, 110, 111, 112, 113, 114, 115, 116, 117, 118, 119, 120, 121, 122, 65, 66, 67, 68, 69, 70, 71, 72, 73, 74, 75, 76, 77, 78, 79, 80, 81, 82, 83, 84, 85, 86, 87, 88, 89, 90, 95]⟩ : ByteArray) true _ A4.out).mono ?_); rintro e w' ⟨rfl, ⟨nd, rfl⟩⟩))
                refine bodyPost_ret (results_ct rfl _ _ w.heap.size 25 #[.int .i64 0, .string ⟨#[]⟩, .int .i64 0] (0, 0) _ rfl (lex_one.tok3 (by first | exact HL.out.tok | (rw [show (World.drewN W4 _).heap = W4.heap from rfl]; exact HL.out.tok) | simpa using HL.out.tok) _ _ _) Tryd.underlying25 rfl (by kernel_rfl)) rfl ?_
                refine ⟨rfl, ?_⟩
                exact ((Below.setCell (p := ⟨w.heap.size, 0, none⟩) (pw_below_drewN HB.out _) (Nat.le_refl _) _).setCell (p := ⟨w.heap.size, 1, none⟩) (Nat.le_refl _) _).setCell (p := ⟨w.heap.size, 2, none⟩) (Nat.le_refl _) _
              | false =>
                rw [if_neg (by decide)] at h
                simp only [Option.some.injEq, Prod.mk.injEq] at h
                obtain ⟨rfl, rfl, rfl, rfl⟩ := h
                clear d y g
                go_enter Tryd.func26, Tryd.ntmps26
                go_wp2_with (first | (go_at_call 36; (with_reducible refine (lex_is.calls (bt a0 0) (⟨#[97, 98, 99, 100, 101, 102, 103, 104, 105, 106, 107, 108, 109, 110, 111, 112, 113, 114, 115, 116, 117, 118, 119, 120, 121, 122, 65, 66, 67, 68, 69, 70, 71, 72, 73, 74, 75, 76, 77, 78, 79, 80, 81, 82, 83, 84, 85, 86, 87, 88, 89, 90, 95]⟩ : ByteArray) false _ A1.out).mono ?_); rintro e w' ⟨rfl, ⟨nd, rfl⟩⟩) | (go_at_call 36; (with_reducible refine (lex_is.calls (bt a0 0) (⟨#[48, 49, 50, 51, 52, 53, 54, 55, 56, 57]⟩ : ByteArray) true _ A2.out).mono ?_); rintro e w' ⟨rfl, ⟨nd, rfl⟩⟩) | (go_at_call 38; (with_reducible refine (lex_number.calls k a0 n _ A3.out).mono ?_); rintro e w' ⟨rfl, ⟨nd, rfl⟩⟩) | (go_at_call 36; (with_reducible refine (lex_is.calls (bt a0 n) (⟨#[97, 98, 99, 100, 101, 102, 103, 104, 105, 106, 107, 108, 109, 110, 111, 112, 113, 114, 115, 116, 117, 118, 119, 120, 121, 122, 65, 66, 67, 68, 69, 70, 71, 72, 73, 74, 75, 76, 77, 78, 79, 80, 81, 82, 83, 84, 85, 86, 87, 88, 89, 90, 95]⟩ : ByteArray) false _ A4.out).mono ?_); rintro e w' ⟨rfl, ⟨nd, rfl⟩⟩))
                refine bodyPost_ret (results_ct rfl _ _ w.heap.size 25 #[.int .i64 2, .string (a0.extract 0 n.toNat), .int .i64 0] (0, 0) _ rfl (lex_one.tok3 (by first | exact HL.out.tok | (rw [show (World.drewN W4 _).heap = W4.heap from rfl]; exact HL.out.tok) | simpa using HL.out.tok) _ _ _) Tryd.underlying25 rfl (by kernel_rfl)) rfl ?_
                refine ⟨rfl, ?_⟩
                exact ((Below.setCell (p := ⟨w.heap.size, 0, none⟩) (pw_below_drewN HB.out _) (Nat.le_refl _) _).setCell (p := ⟨w.heap.size, 1, none⟩) (Nat.le_refl _) _).setCell (p := ⟨w.heap.size, 2, none⟩) (Nat.le_refl _) _
          · rw [if_neg d] at h
            have d1 : decide (n ≤ 40) = false := decide_eq_false d
            simp only [Option.some.injEq, Prod.mk.injEq] at h
            obtain ⟨rfl, rfl, rfl, rfl⟩ := h
            clear d g
            go_enter Tryd.func26, Tryd.ntmps26
            go_wp2_with (first | (go_at_call 36; (with_reducible refine (lex_is.calls (bt a0 0) (⟨#[97, 98, 99, 100, 101, 102, 103, 104, 105, 106, 107, 108, 109, 110, 111, 112, 113, 114, 115, 116, 117, 118, 119, 120, 121, 122, 65, 66, 67, 68, 69, 70, 71, 72, 73, 74, 75, 76, 77, 78, 79, 80, 81, 82, 83, 84, 85, 86, 87, 88, 89, 90, 95]⟩ : ByteArray) false _ A1.out).mono ?_); rintro e w' ⟨rfl, ⟨nd, rfl⟩⟩) | (go_at_call 36; (with_reducible refine (lex_is.calls (bt a0 0) (⟨#[48, 49, 50, 51, 52, 53, 54, 55, 56, 57]⟩ : ByteArray) true _ A2.out).mono ?_); rintro e w' ⟨rfl, ⟨nd, rfl⟩⟩) | (go_at_call 38; (with_reducible refine (lex_number.calls k a0 n _ A3.out).mono ?_); rintro e w' ⟨rfl, ⟨nd, rfl⟩⟩))
            refine bodyPost_ret (results_ct rfl _ _ w.heap.size 25 #[.int .i64 0, .string ⟨#[]⟩, .int .i64 0] (0, 0) _ rfl (lex_one.tok3 (by first | exact HL.out.tok | (rw [show (World.drewN W4 _).heap = W4.heap from rfl]; exact HL.out.tok) | simpa using HL.out.tok) _ _ _) Tryd.underlying25 rfl (by kernel_rfl)) rfl ?_
            refine ⟨rfl, ?_⟩
            exact ((Below.setCell (p := ⟨w.heap.size, 0, none⟩) (pw_below_drewN HB.out _) (Nat.le_refl _) _).setCell (p := ⟨w.heap.size, 1, none⟩) (Nat.le_refl _) _).setCell (p := ⟨w.heap.size, 2, none⟩) (Nat.le_refl _) _
        · rw [if_neg g] at h; exact absurd h (by simp)
      | false =>
        rw [if_neg (by decide)] at h
        by_cases c : bt a0 0 = 39
        · rw [if_pos c] at h
          have x1 : decide (bt a0 0 = 39) = true := decide_eq_true c
          have x2 : (bt a0 0 == 39) = true := by simpa using c
          replace h := Option.bind_eq_some_iff.mp h
          obtain ⟨q, B_, h⟩ := h
          have A3 := Aside0.mk B_
          clear B_
          by_cases d : 0 < q.2
          · rw [if_pos d] at h
            have d1 : decide (0 < q.2) = true := decide_eq_true d
            have d2 : decide (q.2 > 0) = true := decide_eq_true d
            by_cases y : q.1.size ≤ 256
            · rw [if_pos y] at h
              have y1 : decide ((q.1.size : Int) ≤ 256) = true := decide_eq_true (by omega)
              simp only [Option.some.injEq, Prod.mk.injEq] at h
              obtain ⟨rfl, rfl, rfl, rfl⟩ := h
              clear c d y
              go_enter Tryd.func26, Tryd.ntmps26
              go_wp2_with (first | (go_at_call 36; (with_reducible refine (lex_is.calls (bt a0 0) (⟨#[97, 98, 99, 100, 101, 102, 103, 104, 105, 106, 107, 108, 109, 110, 111, 112, 113, 114, 115, 116, 117, 118, 119, 120, 121, 122, 65, 66, 67, 68, 69, 70, 71, 72, 73, 74, 75, 76, 77, 78, 79, 80, 81, 82, 83, 84, 85, 86, 87, 88, 89, 90, 95]⟩ : ByteArray) false _ A1.out).mono ?_); rintro e w' ⟨rfl, ⟨nd, rfl⟩⟩) | (go_at_call 36; (with_reducible refine (lex_is.calls (bt a0 0) (⟨#[48, 49, 50, 51, 52, 53, 54, 55, 56, 57]⟩ : ByteArray) false _ A2.out).mono ?_); rintro e w' ⟨rfl, ⟨nd, rfl⟩⟩) | (go_at_call 39; (with_reducible refine (lex_quoted.calls a0 q _ A3.out).mono ?_); rintro e w5 ⟨rfl, hb⟩; have tk := lex_one.keep HL.out (by first | rfl | simp) hb; have hb5 : Below w.heap.size w w5 := Below.trans (pw_below_drewN HB.out _) (hb.mono (by show w.heap.size ≤ W4.heap.size; have := HL.out.size; omega)); obtain ⟨d0_, d1_, d2_, g0_, g1_, g2_⟩ := lex_one.facts tk))
              refine bodyPost_ret (results_ct rfl _ _ w.heap.size 25 #[.int .i64 3, .string q.1, .int .i64 0] (0, 0) _ rfl (lex_one.tok3 tk _ _ _) Tryd.underlying25 rfl (by kernel_rfl)) rfl ?_
              refine ⟨rfl, ?_⟩
              exact ((Below.setCell (p := ⟨w.heap.size, 0, none⟩) hb5 (Nat.le_refl _) _).setCell (p := ⟨w.heap.size, 1, none⟩) (Nat.le_refl _) _).setCell (p := ⟨w.heap.size, 2, none⟩) (Nat.le_refl _) _
            · rw [if_neg y] at h
              have y1 : decide ((q.1.size : Int) ≤ 256) = false := decide_eq_false (by omega)
              simp only [Option.some.injEq, Prod.mk.injEq] at h
              obtain ⟨rfl, rfl, rfl, rfl⟩ := h
              clear c d y
              go_enter Tryd.func26, Tryd.ntmps26
              go_wp2_with (first | (go_at_call 36; (with_reducible refine (lex_is.calls (bt a0 0) (⟨#[97, 98, 99, 100, 101, 102, 103, 104, 105, 106, 107, 108, 109, 110, 111, 112, 113, 114, 115, 116, 117, 118, 119, 120, 121, 122, 65, 66, 67, 68, 69, 70, 71, 72, 73, 74, 75, 76, 77, 78, 79, 80, 81, 82, 83, 84, 85, 86, 87, 88, 89, 90, 95]⟩ : ByteArray) false _ A1.out).mono ?_); rintro e w' ⟨rfl, ⟨nd, rfl⟩⟩) | (go_at_call 36; (with_reducible refine (lex_is.calls (bt a0 0) (⟨#[48, 49, 50, 51, 52, 53, 54, 55, 56, 57]⟩ : ByteArray) false _ A2.out).mono ?_); rintro e w' ⟨rfl, ⟨nd, rfl⟩⟩) | (go_at_call 39; (with_reducible refine (lex_quoted.calls a0 q _ A3.out).mono ?_); rintro e w5 ⟨rfl, hb⟩; have tk := lex_one.keep HL.out (by first | rfl | simp) hb; have hb5 : Below w.heap.size w w5 := Below.trans (pw_below_drewN HB.out _) (hb.mono (by show w.heap.size ≤ W4.heap.size; have := HL.out.size; omega)); obtain ⟨d0_, d1_, d2_, g0_, g1_, g2_⟩ := lex_one.facts tk))
              refine bodyPost_ret (results_ct rfl _ _ w.heap.size 25 #[.int .i64 0, .string ⟨#[]⟩, .int .i64 0] (0, 0) _ rfl (lex_one.tok3 tk _ _ _) Tryd.underlying25 rfl (by kernel_rfl)) rfl ?_
              refine ⟨rfl, ?_⟩
              exact ((Below.setCell (p := ⟨w.heap.size, 0, none⟩) hb5 (Nat.le_refl _) _).setCell (p := ⟨w.heap.size, 1, none⟩) (Nat.le_refl _) _).setCell (p := ⟨w.heap.size, 2, none⟩) (Nat.le_refl _) _
          · rw [if_neg d] at h
            have d1 : decide (0 < q.2) = false := decide_eq_false d
            have d2 : decide (q.2 > 0) = false := decide_eq_false d
            simp only [Option.some.injEq, Prod.mk.injEq] at h
            obtain ⟨rfl, rfl, rfl, rfl⟩ := h
            clear c d
            go_enter Tryd.func26, Tryd.ntmps26
            go_wp2_with (first | (go_at_call 36; (with_reducible refine (lex_is.calls (bt a0 0) (⟨#[97, 98, 99, 100, 101, 102, 103, 104, 105, 106, 107, 108, 109, 110, 111, 112, 113, 114, 115, 116, 117, 118, 119, 120, 121, 122, 65, 66, 67, 68, 69, 70, 71, 72, 73, 74, 75, 76, 77, 78, 79, 80, 81, 82, 83, 84, 85, 86, 87, 88, 89, 90, 95]⟩ : ByteArray) false _ A1.out).mono ?_); rintro e w' ⟨rfl, ⟨nd, rfl⟩⟩) | (go_at_call 36; (with_reducible refine (lex_is.calls (bt a0 0) (⟨#[48, 49, 50, 51, 52, 53, 54, 55, 56, 57]⟩ : ByteArray) false _ A2.out).mono ?_); rintro e w' ⟨rfl, ⟨nd, rfl⟩⟩) | (go_at_call 39; (with_reducible refine (lex_quoted.calls a0 q _ A3.out).mono ?_); rintro e w5 ⟨rfl, hb⟩; have tk := lex_one.keep HL.out (by first | rfl | simp) hb; have hb5 : Below w.heap.size w w5 := Below.trans (pw_below_drewN HB.out _) (hb.mono (by show w.heap.size ≤ W4.heap.size; have := HL.out.size; omega)); obtain ⟨d0_, d1_, d2_, g0_, g1_, g2_⟩ := lex_one.facts tk))
            refine bodyPost_ret (results_ct rfl _ _ w.heap.size 25 #[.int .i64 0, .string ⟨#[]⟩, .int .i64 0] (0, 0) _ rfl (lex_one.tok3 tk _ _ _) Tryd.underlying25 rfl (by kernel_rfl)) rfl ?_
            refine ⟨rfl, ?_⟩
            exact ((Below.setCell (p := ⟨w.heap.size, 0, none⟩) hb5 (Nat.le_refl _) _).setCell (p := ⟨w.heap.size, 1, none⟩) (Nat.le_refl _) _).setCell (p := ⟨w.heap.size, 2, none⟩) (Nat.le_refl _) _
        · rw [if_neg c] at h
          have x1 : decide (bt a0 0 = 39) = false := decide_eq_false c
          have x2 : (bt a0 0 == 39) = false := by simpa using c
          have lk := fun m => lex_one.look (W4.drewN m) _ (a0.extract 0 2) (show (W4.drewN m).heap[w.heap.size + 1]? = _ from HL.out.map)
          by_cases z : 1 < a0.size ∧ lex_one.tw (a0.extract 0 2) = true
          · rw [if_pos z] at h
            obtain ⟨z1, z2⟩ := z
            rw [z2] at lk
            have z3 : decide (1 < (a0.size : Int)) = true := decide_eq_true (by omega)
            have z4 : decide ((a0.size : Int) > 1) = true := decide_eq_true (by omega)
            have z5 := eq_true (show (2 : Int) ≤ (a0.size : Int) by omega)
            have z6 := eq_true (show 2 ≤ a0.size by omega)
            simp only [Option.some.injEq, Prod.mk.injEq] at h
            obtain ⟨rfl, rfl, rfl, rfl⟩ := h
            clear c z1
            go_enter Tryd.func26, Tryd.ntmps26
            go_wp2_with (first | (go_at_call 36; (with_reducible refine (lex_is.calls (bt a0 0) (⟨#[97, 98, 99, 100, 101, 102, 103, 104, 105, 106, 107, 108, 109, 110, 111, 112, 113, 114, 115, 116, 117, 118, 119, 120, 121, 122, 65, 66, 67, 68, 69, 70, 71, 72, 73, 74, 75, 76, 77, 78, 79, 80, 81, 82, 83, 84, 85, 86, 87, 88, 89, 90, 95]⟩ : ByteArray) false _ A1.out).mono ?_); rintro e w' ⟨rfl, ⟨nd, rfl⟩⟩) | (go_at_call 36; (with_reducible refine (lex_is.calls (bt a0 0) (⟨#[48, 49, 50, 51, 52, 53, 54, 55, 56, 57]⟩ : ByteArray) false _ A2.out).mono ?_); rintro e w' ⟨rfl, ⟨nd, rfl⟩⟩))
            refine bodyPost_ret (results_ct rfl _ _ w.heap.size 25 #[.int .i64 4, .string (a0.extract 0 2), .int .i64 0] (0, 0) _ rfl (lex_one.tok3 (by first | exact HL.out.tok | (rw [show (World.drewN W4 _).heap = W4.heap from rfl]; exact HL.out.tok) | simpa using HL.out.tok) _ _ _) Tryd.underlying25 rfl (by kernel_rfl)) rfl ?_
            refine ⟨rfl, ?_⟩
            exact ((Below.setCell (p := ⟨w.heap.size, 0, none⟩) (pw_below_drewN HB.out _) (Nat.le_refl _) _).setCell (p := ⟨w.heap.size, 1, none⟩) (Nat.le_refl _) _).setCell (p := ⟨w.heap.size, 2, none⟩) (Nat.le_refl _) _
          · rw [if_neg z] at h
            replace h := Option.bind_eq_some_iff.mp h
            obtain ⟨t4, B_, h⟩ := h
            have A3 := Aside0.mk B_
            clear B_
            have o1 := eq_true (show (1 : Int) ≤ (a0.size : Int) by have := HS.out; omega)
            have o2 := eq_true (show 1 ≤ a0.size by have := HS.out; omega)
            by_cases z1 : 1 < a0.size
            · have z3 : decide (1 < (a0.size : Int)) = true := decide_eq_true (by omega)
              have z4 : decide ((a0.size : Int) > 1) = true := decide_eq_true (by omega)
              have z2 : lex_one.tw (a0.extract 0 2) = false := by
                cases e : lex_one.tw (a0.extract 0 2) with
                | false => rfl
                | true => exact absurd ⟨z1, e⟩ z
              rw [z2] at lk
              have z5 := eq_true (show (2 : Int) ≤ (a0.size : Int) by omega)
              have z6 := eq_true (show 2 ≤ a0.size by omega)
              clear c z1 z
              cases t4 with
              | true =>
                rw [if_pos rfl] at h
                simp only [Option.some.injEq, Prod.mk.injEq] at h
                obtain ⟨rfl, rfl, rfl, rfl⟩ := h
                go_enter Tryd.func26, Tryd.ntmps26
                go_wp2_with (first | (go_at_call 36; (with_reducible refine (lex_is.calls (bt a0 0) (⟨#[97, 98, 99, 100, 101, 102, 103, 104, 105, 106, 107, 108, 109, 110, 111, 112, 113, 114, 115, 116, 117, 118, 119, 120, 121, 122, 65, 66, 67, 68, 69, 70, 71, 72, 73, 74, 75, 76, 77, 78, 79, 80, 81, 82, 83, 84, 85, 86, 87, 88, 89, 90, 95]⟩ : ByteArray) false _ A1.out).mono ?_); rintro e w' ⟨rfl, ⟨nd, rfl⟩⟩) | (go_at_call 36; (with_reducible refine (lex_is.calls (bt a0 0) (⟨#[48, 49, 50, 51, 52, 53, 54, 55, 56, 57]⟩ : ByteArray) false _ A2.out).mono ?_); rintro e w' ⟨rfl, ⟨nd, rfl⟩⟩) | (go_at_call 36; (with_reducible refine (lex_is.calls (bt a0 0) (⟨#[40, 41, 44, 46, 59, 42, 43, 45, 47, 37, 61, 60, 62]⟩ : ByteArray) true _ A3.out).mono ?_); rintro e w' ⟨rfl, ⟨nd, rfl⟩⟩))
                refine bodyPost_ret (results_ct rfl _ _ w.heap.size 25 #[.int .i64 4, .string (a0.extract 0 1), .int .i64 0] (0, 0) _ rfl (lex_one.tok3 (by first | exact HL.out.tok | (rw [show (World.drewN W4 _).heap = W4.heap from rfl]; exact HL.out.tok) | simpa using HL.out.tok) _ _ _) Tryd.underlying25 rfl (by kernel_rfl)) rfl ?_
                refine ⟨rfl, ?_⟩
                exact ((Below.setCell (p := ⟨w.heap.size, 0, none⟩) (pw_below_drewN HB.out _) (Nat.le_refl _) _).setCell (p := ⟨w.heap.size, 1, none⟩) (Nat.le_refl _) _).setCell (p := ⟨w.heap.size, 2, none⟩) (Nat.le_refl _) _
              | false =>
                rw [if_neg (by decide)] at h
                simp only [Option.some.injEq, Prod.mk.injEq] at h
                obtain ⟨rfl, rfl, rfl, rfl⟩ := h
                go_enter Tryd.func26, Tryd.ntmps26
                go_wp2_with (first | (go_at_call 36; (with_reducible refine (lex_is.calls (bt a0 0) (⟨#[97, 98, 99, 100, 101, 102, 103, 104, 105, 106, 107, 108, 109, 110, 111, 112, 113, 114, 115, 116, 117, 118, 119, 120, 121, 122, 65, 66, 67, 68, 69, 70, 71, 72, 73, 74, 75, 76, 77, 78, 79, 80, 81, 82, 83, 84, 85, 86, 87, 88, 89, 90, 95]⟩ : ByteArray) false _ A1.out).mono ?_); rintro e w' ⟨rfl, ⟨nd, rfl⟩⟩) | (go_at_call 36; (with_reducible refine (lex_is.calls (bt a0 0) (⟨#[48, 49, 50, 51, 52, 53, 54, 55, 56, 57]⟩ : ByteArray) false _ A2.out).mono ?_); rintro e w' ⟨rfl, ⟨nd, rfl⟩⟩) | (go_at_call 36; (with_reducible refine (lex_is.calls (bt a0 0) (⟨#[40, 41, 44, 46, 59, 42, 43, 45, 47, 37, 61, 60, 62]⟩ : ByteArray) false _ A3.out).mono ?_); rintro e w' ⟨rfl, ⟨nd, rfl⟩⟩))
                refine bodyPost_ret (results_ct rfl _ _ w.heap.size 25 #[.int .i64 0, .string ⟨#[]⟩, .int .i64 0] (0, 0) _ rfl (lex_one.tok3 (by first | exact HL.out.tok | (rw [show (World.drewN W4 _).heap = W4.heap from rfl]; exact HL.out.tok) | simpa using HL.out.tok) _ _ _) Tryd.underlying25 rfl (by kernel_rfl)) rfl ?_
                refine ⟨rfl, ?_⟩
                exact ((Below.setCell (p := ⟨w.heap.size, 0, none⟩) (pw_below_drewN HB.out _) (Nat.le_refl _) _).setCell (p := ⟨w.heap.size, 1, none⟩) (Nat.le_refl _) _).setCell (p := ⟨w.heap.size, 2, none⟩) (Nat.le_refl _) _
            · have z3 : decide (1 < (a0.size : Int)) = false := decide_eq_false (by omega)
              have z4 : decide ((a0.size : Int) > 1) = false := decide_eq_false (by omega)
              clear c z1 z
              cases t4 with
              | true =>
                rw [if_pos rfl] at h
                simp only [Option.some.injEq, Prod.mk.injEq] at h
                obtain ⟨rfl, rfl, rfl, rfl⟩ := h
                go_enter Tryd.func26, Tryd.ntmps26
                go_wp2_with (first | (go_at_call 36; (with_reducible refine (lex_is.calls (bt a0 0) (⟨#[97, 98, 99, 100, 101, 102, 103, 104, 105, 106, 107, 108, 109, 110, 111, 112, 113, 114, 115, 116, 117, 118, 119, 120, 121, 122, 65, 66, 67, 68, 69, 70, 71, 72, 73, 74, 75, 76, 77, 78, 79, 80, 81, 82, 83, 84, 85, 86, 87, 88, 89, 90, 95]⟩ : ByteArray) false _ A1.out).mono ?_); rintro e w' ⟨rfl, ⟨nd, rfl⟩⟩) | (go_at_call 36; (with_reducible refine (lex_is.calls (bt a0 0) (⟨#[48, 49, 50, 51, 52, 53, 54, 55, 56, 57]⟩ : ByteArray) false _ A2.out).mono ?_); rintro e w' ⟨rfl, ⟨nd, rfl⟩⟩) | (go_at_call 36; (with_reducible refine (lex_is.calls (bt a0 0) (⟨#[40, 41, 44, 46, 59, 42, 43, 45, 47, 37, 61, 60, 62]⟩ : ByteArray) true _ A3.out).mono ?_); rintro e w' ⟨rfl, ⟨nd, rfl⟩⟩))
                refine bodyPost_ret (results_ct rfl _ _ w.heap.size 25 #[.int .i64 4, .string (a0.extract 0 1), .int .i64 0] (0, 0) _ rfl (lex_one.tok3 (by first | exact HL.out.tok | (rw [show (World.drewN W4 _).heap = W4.heap from rfl]; exact HL.out.tok) | simpa using HL.out.tok) _ _ _) Tryd.underlying25 rfl (by kernel_rfl)) rfl ?_
                refine ⟨rfl, ?_⟩
                exact ((Below.setCell (p := ⟨w.heap.size, 0, none⟩) (pw_below_drewN HB.out _) (Nat.le_refl _) _).setCell (p := ⟨w.heap.size, 1, none⟩) (Nat.le_refl _) _).setCell (p := ⟨w.heap.size, 2, none⟩) (Nat.le_refl _) _
              | false =>
                rw [if_neg (by decide)] at h
                simp only [Option.some.injEq, Prod.mk.injEq] at h
                obtain ⟨rfl, rfl, rfl, rfl⟩ := h
                go_enter Tryd.func26, Tryd.ntmps26
                go_wp2_with (first | (go_at_call 36; (with_reducible refine (lex_is.calls (bt a0 0) (⟨#[97, 98, 99, 100, 101, 102, 103, 104, 105, 106, 107, 108, 109, 110, 111, 112, 113, 114, 115, 116, 117, 118, 119, 120, 121, 122, 65, 66, 67, 68, 69, 70, 71, 72, 73, 74, 75, 76, 77, 78, 79, 80, 81, 82, 83, 84, 85, 86, 87, 88, 89, 90, 95]⟩ : ByteArray) false _ A1.out).mono ?_); rintro e w' ⟨rfl, ⟨nd, rfl⟩⟩) | (go_at_call 36; (with_reducible refine (lex_is.calls (bt a0 0) (⟨#[48, 49, 50, 51, 52, 53, 54, 55, 56, 57]⟩ : ByteArray) false _ A2.out).mono ?_); rintro e w' ⟨rfl, ⟨nd, rfl⟩⟩) | (go_at_call 36; (with_reducible refine (lex_is.calls (bt a0 0) (⟨#[40, 41, 44, 46, 59, 42, 43, 45, 47, 37, 61, 60, 62]⟩ : ByteArray) false _ A3.out).mono ?_); rintro e w' ⟨rfl, ⟨nd, rfl⟩⟩))
                refine bodyPost_ret (results_ct rfl _ _ w.heap.size 25 #[.int .i64 0, .string ⟨#[]⟩, .int .i64 0] (0, 0) _ rfl (lex_one.tok3 (by first | exact HL.out.tok | (rw [show (World.drewN W4 _).heap = W4.heap from rfl]; exact HL.out.tok) | simpa using HL.out.tok) _ _ _) Tryd.underlying25 rfl (by kernel_rfl)) rfl ?_
                refine ⟨rfl, ?_⟩
                exact ((Below.setCell (p := ⟨w.heap.size, 0, none⟩) (pw_below_drewN HB.out _) (Nat.le_refl _) _).setCell (p := ⟨w.heap.size, 1, none⟩) (Nat.le_refl _) _).setCell (p := ⟨w.heap.size, 2, none⟩) (Nat.le_refl _) _
  · rw [if_neg hs] at h; exact absurd h (by simp)


/-! ### lex_known: function 16 -/
def lex_known.l0 : Nat → ByteArray → List (S25) → Int → Option ((List (S25)) × Int)
  | 0, _, _, _ => none
  | k + 1, x0, x4, x5 => if x5 < (x0.size : Int) then (if 0 ≤ x5 then (if x5 ≤ (x0.size : Int) then ((lex_one.f k (x0.extract (x5 : Int).toNat x0.size)).bind fun bt111 => (if bt111.2.2.2 = 0 then (some (x4, x5)) else (if x4.length < 4398046511104 then (if 0 ≤ (wrap64 (x5 + bt111.2.2.2)) then (if (wrap64 (x5 + bt111.2.2.2)) ≤ (x0.size : Int) then ((lex_space.f k (x0.extract ((wrap64 (x5 + bt111.2.2.2)) : Int).toNat x0.size)).bind fun t119 => (lex_known.l0 k x0 (x4 ++ [(⟨bt111.1, bt111.2.1, x5⟩ : S25)]) (wrap64 ((wrap64 (x5 + bt111.2.2.2)) + t119)))) else (none)) else (none)) else (none)))) else (none)) else (none)) else (some (x4, (-1)))
def lex_known.f (k : Nat) (a0 : ByteArray) : Option ((List (S25)) × Int) := (lex_space.f k a0).bind fun t110 => (lex_known.l0 k a0 ([] : List (S25)) t110)
theorem lex_known.mono_l : ∀ k, (∀ y0 y1 y2, LeO (lex_known.l0 k y0 y1 y2) (lex_known.l0 (k + 1) y0 y1 y2))
  | 0 => fun _ _ _ r h => by simp [lex_known.l0] at h
  | k + 1 => by
    have ih0 := lex_known.mono_l k
    · intro y0 y1 y2
      unfold lex_known.l0
      repeat' first
      | (with_reducible exact ih0 _ _ _)
      | (with_reducible exact lex_one.mono _ _)
      | (with_reducible exact lex_space.mono _ _)
      | (with_reducible exact LeO.refl _)
      | (with_reducible exact LeO.none _)
      | (with_reducible refine LeO.ite ?_ ?_)
      | (with_reducible refine LeO.bind ?_ (fun _ => ?_))
      | exact ih0 _ _ _
      | exact lex_one.mono _ _
      | exact lex_space.mono _ _
      | exact LeO.none _
      | refine LeO.ite ?_ ?_
      | refine LeO.bind ?_ (fun _ => ?_)
theorem lex_known.mono : ∀ a0 k, LeO (lex_known.f k a0) (lex_known.f (k + 1) a0) := by
  intro a0 k
  have ih0 := lex_known.mono_l k
  unfold lex_known.f
  repeat' first
      | (with_reducible exact ih0 _ _ _)
      | (with_reducible exact lex_one.mono _ _)
      | (with_reducible exact lex_space.mono _ _)
      | (with_reducible exact LeO.refl _)
      | (with_reducible exact LeO.none _)
      | (with_reducible refine LeO.ite ?_ ?_)
      | (with_reducible refine LeO.bind ?_ (fun _ => ?_))
      | exact ih0 _ _ _
      | exact lex_one.mono _ _
      | exact lex_space.mono _ _
      | exact LeO.none _
      | refine LeO.ite ?_ ?_
      | refine LeO.bind ?_ (fun _ => ?_)
set_option maxHeartbeats 8000000 in
set_option maxRecDepth 100000 in
theorem lex_known.calls (k : Nat) (a0 : ByteArray) (r1 : List (S25)) (r2 : Int) (w : World) (h : lex_known.f k a0 = some (r1, r2)) :
    Calls Tryd.prog 16 #[.string a0] w fun e w' => ∃ v0_ : Value, e = .returned (.tuple #[v0_, .int .i64 r2]) ∧ Kd.R k25 25 w' w.heap.size (fun _ => True) v0_ r1 ∧ Below w.heap.size w w' := by
  have hu25 := Tryd.underlying25
  have HB := Aside0.mk (Below.refl w.heap.size w)
  have H : ((lex_space.f k a0).bind fun t110 => (lex_known.l0 k a0 ([] : List (S25)) t110)) = some (r1, r2) := h
  clear h
  replace H := Option.bind_eq_some_iff.mp H
  obtain ⟨t110, A20, H⟩ := H
  replace H : (lex_known.l0 k a0 ([] : List (S25)) t110) = some (r1, r2) := H
  have A2 := Aside0.mk A20
  clear A20
  have H' := Aside0.mk H
  clear H
  go_enter Tryd.func16, Tryd.ntmps16
  go_wp2_with (first | ((with_reducible refine gate_callee (f := 25) rfl ?_); refine goesL_ (some 9) rfl rfl Tryd.func25 (by kernel_rfl) rfl #[.string a0] rfl (by (try simp only [List.map_toArray, List.map_cons, List.map_nil]); first | done | rfl | (simp only [List.length_drop, List.length_take]; rfl)) ?_; (with_reducible refine (lex_space.calls k a0 t110 _ A2.out).mono ?_); rintro e w' ⟨rfl, ⟨nd, rfl⟩⟩; refine ⟨_, rfl, ?_⟩))
  go_loopg [4, 5] k (fun kq v4 v5 w' => ∃ (x4_1 : List (S25)) (x5_1 : Int), v5 = .int .i64 x5_1 ∧ Aside0 (lex_known.l0 kq a0 x4_1 x5_1 = some (r1, r2)) ∧ Aside0 (kq ≤ k) ∧ Aside0 (Kd.R k25 25 w' w.heap.size (fun _ => True) v4 x4_1) ∧ Aside0 (Below w.heap.size w w'))
  case atStart => exact ⟨(([] : List (S25))), (t110), (by first | rfl | (simp; done) | (simp [*]; done)), H', ⟨Nat.le_refl _⟩, ⟨by first | exact Kd.R_nil _ _ _ _ _ | exact Kd.N_nil _ _ _ _ _ | exact Kd.V_nil _ _ _ _ _ | exact Kd.Q_nil _ _ _ _ _ | exact Kd.S_nil _ _ _ _ _⟩, ⟨by repeat (first | (with_reducible first | exact HB.out | apply below_alloc | apply pw_below_drewN | apply below_drew1) | exact HB.out)⟩⟩
  case round =>
    clear H'
    try clear c1
    try clear c2
    try clear p2
    obtain ⟨x4_1, x5_1, rfl, HA, HK1, HO_4, HB⟩ := hrel
    cases gk with
    | zero => exact absurd HA.out (by simp [lex_known.l0])
    | succ k1 =>
      have H := HA.out
      clear HA
      simp only [lex_known.l0] at H
      by_cases c3 : x5_1 < (a0.size : Int)
      · rw [if_pos c3] at H
        have c3b0 : decide (x5_1 < (a0.size : Int)) = true := decide_eq_true c3
        clear c3
        by_cases c4 : 0 ≤ x5_1
        · rw [if_pos c4] at H
          have c4b0 := eq_true c4
          (try (have c4n := c4; simp [size_lit] at c4n))
          have c4b1 : decide (0 ≤ x5_1) = true := decide_eq_true c4
          clear c4
          by_cases c5 : x5_1 ≤ (a0.size : Int)
          · rw [if_pos c5] at H
            have c5b0 := eq_true c5
            (try (have c5n := c5; simp [size_lit] at c5n))
            have c5b1 : decide (x5_1 ≤ (a0.size : Int)) = true := decide_eq_true c5
            clear c5
            replace H := Option.bind_eq_some_iff.mp H
            obtain ⟨⟨t111, t112, t113, t114⟩, A60, H⟩ := H
            replace H : (if t114 = 0 then (some (x4_1, x5_1)) else (if x4_1.length < 4398046511104 then (if 0 ≤ (wrap64 (x5_1 + t114)) then (if (wrap64 (x5_1 + t114)) ≤ (a0.size : Int) then ((lex_space.f k1 (a0.extract ((wrap64 (x5_1 + t114)) : Int).toNat a0.size)).bind fun t119 => (lex_known.l0 k1 a0 (x4_1 ++ [(⟨t111, t112, x5_1⟩ : S25)]) (wrap64 ((wrap64 (x5_1 + t114)) + t119)))) else (none)) else (none)) else (none))) = some (r1, r2) := H
            have A6 := Aside0.mk A60
            clear A60
            by_cases c7 : t114 = 0
            · rw [if_pos c7] at H
              have c7b0 : (t114 == 0) = true := beq_iff_eq.mpr c7
              have c7b1 : (t114 != 0) = false := bne_eq_false_iff_eq.mpr c7
              clear c7
              simp only [Option.some.injEq, Prod.mk.injEq] at H
              obtain ⟨rfl, rfl⟩ := H
              go_wp2_with (first | ((with_reducible refine gate_callee (f := 26) rfl ?_); refine goesL_ (some 18) rfl rfl Tryd.func26 (by kernel_rfl) rfl #[.string (a0.extract (x5_1 : Int).toNat a0.size)] rfl (by (try simp only [List.map_toArray, List.map_cons, List.map_nil]); first | done | rfl | (simp only [List.length_drop, List.length_take]; rfl)) ?_; (with_reducible refine (lex_one.calls k1 (a0.extract (x5_1 : Int).toNat a0.size) t111 t112 t113 t114 _ A6.out).mono ?_); rintro e w8 ⟨rfl, hb⟩; refine ⟨_, rfl, ?_⟩; have n0_ := Aside0.mk (Kd.R_below (by (with_reducible repeat (first | apply Kd.R_alloc | apply Kd.R_drewN | apply Kd.R_drew)); exact HO_4.out) hb); have n1_ := Aside0.mk (below_step (by repeat (first | (with_reducible first | exact HB.out | apply below_alloc | apply pw_below_drewN | apply below_drew1) | exact HB.out)) hb); clear HO_4; clear HB; have HO_4 := n0_; have HB := n1_; clear n0_ n1_; (try clear hb); (try clear hb2); (try clear hk); (try clear hi)) | ((with_reducible refine gate_dst (N := 6) rfl ?_); refine box_event ?hg (N := 6) ?hd (cs := #[.int .i64 0, .string (⟨#[]⟩ : ByteArray), .int .i64 0]) (t := 25) ?hr ?_; (case hd => rfl); (case hg => rfl); (case hr => first | (go_simp; done) | (go_simp; rfl)); intro gb115 hg w9 hbox hb; have n0_ := Aside0.mk (Kd.R_below (Kd.R_elderB (by (with_reducible repeat (first | apply Kd.R_alloc | apply Kd.R_drewN | apply Kd.R_drew)); exact HO_4.out) gb115 (Nat.le_of_eq hg.symm)) hb); have n1_ := Aside0.mk (below_step (by repeat (first | (with_reducible first | exact HB.out | apply below_alloc | apply pw_below_drewN | apply below_drew1) | exact HB.out)) hb); have n2_ := Aside0.mk (hbox); have n3_ := Aside0.mk ((by rw [hg]; exact (below_size (by repeat (first | (with_reducible first | exact HB.out | apply below_alloc | apply pw_below_drewN | apply below_drew1) | exact HB.out))) : w.heap.size ≤ gb115)); have n4_ := Aside0.mk ((by rw [hg]; exact (below_size (by repeat (first | (with_reducible first | exact HB.out | apply below_alloc | apply pw_below_drewN | apply below_drew1) | exact HB.out))) : w.heap.size ≤ gb115)); clear HO_4; clear HB; have HO_4 := n0_; have HB := n1_; have BK115 := n2_; have GW115 := n3_; have GE115 := n4_; clear n0_ n1_ n2_ n3_ n4_; clear hb hbox hg; have hcz10_0 : w9.cell? ⟨gb115, 0, none⟩ = some (.int .i64 0) := (blk_cell BK115.out 0).trans rfl; have hcz10_1 : w9.cell? ⟨gb115, 1, none⟩ = some (.string (⟨#[]⟩ : ByteArray)) := (blk_cell BK115.out 1).trans rfl; have hcz10_2 : w9.cell? ⟨gb115, 2, none⟩ = some (.int .i64 0) := (blk_cell BK115.out 2).trans rfl; have hfz10_0 := blk_frozen BK115.out 0; have hfz10_1 := blk_frozen BK115.out 1; have hfz10_2 := blk_frozen BK115.out 2; have hcz10_3 : ∀ a b u v : Value, ((((w9.setCell ⟨gb115, 0, none⟩ a).setCell ⟨gb115, 1, none⟩ b).setCell ⟨gb115, 2, none⟩ u).setCell ⟨gb115, 2, none⟩ v).cell? ⟨gb115, 2, none⟩ = some v := fun a b u v => (blk_cell (blk_put (blk_put (blk_put (blk_put BK115.out 0 a rfl) 1 b rfl) 2 u rfl) 2 v rfl) 2).trans rfl))
              go_ret2
              exact ⟨_, by first | rfl | (simp [errW_none, errW_some] <;> rfl) | (simp [*, errW_none, errW_some] <;> rfl), by (with_reducible repeat (first | apply Kd.R_alloc | apply Kd.R_drewN | apply Kd.R_drew)); exact Kd.R_mono (Kd.R_far (p := ⟨gb115, 2, none⟩) (Kd.R_far (p := ⟨gb115, 1, none⟩) (Kd.R_far (p := ⟨gb115, 0, none⟩) (Kd.R_mono HO_4.out (fun k_ hk => (⟨hk, hk.2⟩ : _ ∧ k_ ≠ gb115))) (fun _ hk => hk.2) (.int .i64 t111)) (fun _ hk => hk.2) (.string t112)) (fun _ hk => hk.2) (.int .i64 t113)) (fun _ hk => trivial), by repeat (first | (with_reducible first | exact HB.out | apply below_alloc | apply pw_below_drewN | apply below_drew1 | refine below_set ?_ GE115.out) | exact HB.out)⟩
            · rw [if_neg c7] at H
              have c7b0 : (t114 == 0) = false := beq_eq_false_iff_ne.mpr c7
              have c7b1 : (t114 != 0) = true := bne_iff_ne.mpr c7
              by_cases c11 : x4_1.length < 4398046511104
              · rw [if_pos c11] at H
                have LMc11 := Aside0.mk c11
                clear c11
                obtain ⟨y116, hy116⟩ : ∃ y_ : List (S25), y_ = (x4_1 ++ [(⟨t111, t112, x5_1⟩ : S25)]) := ⟨_, rfl⟩
                replace H : (if 0 ≤ (wrap64 (x5_1 + t114)) then (if (wrap64 (x5_1 + t114)) ≤ (a0.size : Int) then ((lex_space.f k1 (a0.extract ((wrap64 (x5_1 + t114)) : Int).toNat a0.size)).bind fun t119 => (lex_known.l0 k1 a0 y116 (wrap64 ((wrap64 (x5_1 + t114)) + t119)))) else (none)) else (none)) = some (r1, r2) := by first | (rw [hy116]; with_reducible exact H) | (have H2_ := (Option.bind_some _ _).symm.trans H; rw [hy116]; with_reducible exact H2_) | (have H2_ := (Option.bind_some _ _).symm.trans H; with_reducible exact H2_) | with_reducible exact H | (rw [hy116]; exact H) | exact H
                have Ny116 := Aside0.mk hy116
                clear hy116
                obtain ⟨ji12, hji12⟩ : ∃ j_ : Int, (wrap64 (x5_1 + t114)) = j_ := ⟨_, rfl⟩
                replace H : (if 0 ≤ (ji12) then (if (ji12) ≤ (a0.size : Int) then ((lex_space.f k1 (a0.extract ((ji12) : Int).toNat a0.size)).bind fun t119 => (lex_known.l0 k1 a0 y116 (wrap64 ((ji12) + t119)))) else (none)) else (none)) = some (r1, r2) := by first | (rw [hji12] at H; exact H) | (simp only [hji12] at H ⊢; exact H)
                (try rw [hji12] at A6)
                have hji12w : (IntKind.i64.wrap (x5_1 + t114)) = ji12 := (i64_w _).trans hji12
                by_cases c13 : 0 ≤ (ji12)
                · rw [if_pos c13] at H
                  have c13b0 := eq_true c13
                  (try (have c13n := c13; simp [size_lit] at c13n))
                  have c13b1 : decide (0 ≤ (ji12)) = true := decide_eq_true c13
                  clear c13
                  by_cases c14 : (ji12) ≤ (a0.size : Int)
                  · rw [if_pos c14] at H
                    have c14b0 := eq_true c14
                    (try (have c14n := c14; simp [size_lit] at c14n))
                    have c14b1 : decide ((ji12) ≤ (a0.size : Int)) = true := decide_eq_true c14
                    clear c14
                    replace H := Option.bind_eq_some_iff.mp H
                    obtain ⟨t119, A150, H⟩ := H
                    replace H : (lex_known.l0 k1 a0 y116 (wrap64 ((ji12) + t119))) = some (r1, r2) := H
                    have A15 := Aside0.mk A150
                    clear A150
                    have H' := Aside0.mk H
                    clear H
                    go_wp2_with (first | ((with_reducible refine gate_callee (f := 26) rfl ?_); refine goesL_ (some 18) rfl rfl Tryd.func26 (by kernel_rfl) rfl #[.string (a0.extract (x5_1 : Int).toNat a0.size)] rfl (by (try simp only [List.map_toArray, List.map_cons, List.map_nil]); first | done | rfl | (simp only [List.length_drop, List.length_take]; rfl)) ?_; (with_reducible refine (lex_one.calls k1 (a0.extract (x5_1 : Int).toNat a0.size) t111 t112 t113 t114 _ A6.out).mono ?_); rintro e w16 ⟨rfl, hb⟩; refine ⟨_, rfl, ?_⟩; have n0_ := Aside0.mk (Kd.R_below (by (with_reducible repeat (first | apply Kd.R_alloc | apply Kd.R_drewN | apply Kd.R_drew)); exact HO_4.out) hb); have n1_ := Aside0.mk (below_step (by repeat (first | (with_reducible first | exact HB.out | apply below_alloc | apply pw_below_drewN | apply below_drew1) | exact HB.out)) hb); clear HO_4; clear HB; have HO_4 := n0_; have HB := n1_; clear n0_ n1_; (try clear hb); (try clear hb2); (try clear hk); (try clear hi)) | ((with_reducible refine gate_dst (N := 6) rfl ?_); refine box_event ?hg (N := 6) ?hd (cs := #[.int .i64 0, .string (⟨#[]⟩ : ByteArray), .int .i64 0]) (t := 25) ?hr ?_; (case hd => rfl); (case hg => rfl); (case hr => first | (go_simp; done) | (go_simp; rfl)); intro gb115 hg w17 hbox hb; have n0_ := Aside0.mk (Kd.R_below (Kd.R_elderB (by (with_reducible repeat (first | apply Kd.R_alloc | apply Kd.R_drewN | apply Kd.R_drew)); exact HO_4.out) gb115 (Nat.le_of_eq hg.symm)) hb); have n1_ := Aside0.mk (below_step (by repeat (first | (with_reducible first | exact HB.out | apply below_alloc | apply pw_below_drewN | apply below_drew1) | exact HB.out)) hb); have n2_ := Aside0.mk (hbox); have n3_ := Aside0.mk ((by rw [hg]; exact (below_size (by repeat (first | (with_reducible first | exact HB.out | apply below_alloc | apply pw_below_drewN | apply below_drew1) | exact HB.out))) : w.heap.size ≤ gb115)); have n4_ := Aside0.mk ((by rw [hg]; exact (below_size (by repeat (first | (with_reducible first | exact HB.out | apply below_alloc | apply pw_below_drewN | apply below_drew1) | exact HB.out))) : w.heap.size ≤ gb115)); clear HO_4; clear HB; have HO_4 := n0_; have HB := n1_; have BK115 := n2_; have GW115 := n3_; have GE115 := n4_; clear n0_ n1_ n2_ n3_ n4_; clear hb hbox hg; have hcz18_0 : w17.cell? ⟨gb115, 0, none⟩ = some (.int .i64 0) := (blk_cell BK115.out 0).trans rfl; have hcz18_1 : w17.cell? ⟨gb115, 1, none⟩ = some (.string (⟨#[]⟩ : ByteArray)) := (blk_cell BK115.out 1).trans rfl; have hcz18_2 : w17.cell? ⟨gb115, 2, none⟩ = some (.int .i64 0) := (blk_cell BK115.out 2).trans rfl; have hfz18_0 := blk_frozen BK115.out 0; have hfz18_1 := blk_frozen BK115.out 1; have hfz18_2 := blk_frozen BK115.out 2; have hcz18_3 : ∀ a b u v : Value, ((((w17.setCell ⟨gb115, 0, none⟩ a).setCell ⟨gb115, 1, none⟩ b).setCell ⟨gb115, 2, none⟩ u).setCell ⟨gb115, 2, none⟩ v).cell? ⟨gb115, 2, none⟩ = some v := fun a b u v => (blk_cell (blk_put (blk_put (blk_put (blk_put BK115.out 0 a rfl) 1 b rfl) 2 u rfl) 2 v rfl) 2).trans rfl) | ((with_reducible refine gate_builtin (b := .append) (xs := #[.tmp 27, .tmp 29]) rfl ?_); at_builtin; refine Kd.R_append k25 (w0 := w) w.heap.size rfl (.tmp 27) (.tmp 29) 22 25 (.agg #[(.int .i64 0), (.string ⟨#[]⟩), (.int .i64 0)]) 32 rfl Tryd.underlying22 info25 rfl (by decide) (by omega) u4 x4_1 (⟨t111, t112, x5_1⟩ : S25) [.int .i64 t111, .string t112, .int .i64 x5_1] (fun k_ => k_ ≠ gb115) (fun _ => False) rfl (by first | (go_simp; done) | (go_simp; rfl)) ?aP (fun _ hk => hk.elim) ?aF ?aO ?aB ?aS ?aL ?_; (case aP => exact k25_mkM _ _ _ (⟨t111, t112, x5_1⟩ : S25)); (case aB => exact (by repeat (first | (with_reducible first | exact HB.out | apply below_alloc | apply pw_below_drewN | apply below_drew1 | refine below_set ?_ GE115.out) | exact HB.out))); (case aF => exact (fun k_ hk => Kd.freshB (g := gb115) (o := .cells #[.int .i64 t111, .string t112, .int .i64 x5_1] 25 (0, 0)) (by (with_reducible repeat (first | refine blk_drewN ?_ _ | refine blk_drew ?_ | refine blk_alloc ?_ _)); refine blk_put (cs := #[.int .i64 t111, .string t112, .int .i64 t113]) ?_ 2 _ rfl; (with_reducible repeat (first | refine blk_drewN ?_ _ | refine blk_drew ?_ | refine blk_alloc ?_ _)); refine blk_put (cs := #[.int .i64 t111, .string t112, .int .i64 0]) ?_ 2 _ rfl; (with_reducible repeat (first | refine blk_drewN ?_ _ | refine blk_drew ?_ | refine blk_alloc ?_ _)); refine blk_put (cs := #[.int .i64 t111, .string (⟨#[]⟩ : ByteArray), .int .i64 0]) ?_ 1 _ rfl; (with_reducible repeat (first | refine blk_drewN ?_ _ | refine blk_drew ?_ | refine blk_alloc ?_ _)); refine blk_put (cs := #[.int .i64 0, .string (⟨#[]⟩ : ByteArray), .int .i64 0]) ?_ 0 _ rfl; (with_reducible repeat (first | refine blk_drewN ?_ _ | refine blk_drew ?_ | refine blk_alloc ?_ _)); exact BK115.out) k_ hk)); (case aO => exact (by (with_reducible repeat (first | apply Kd.R_alloc | apply Kd.R_drewN | apply Kd.R_drew)); exact Kd.R_mono (Kd.R_far (p := ⟨gb115, 2, none⟩) (Kd.R_far (p := ⟨gb115, 2, none⟩) (Kd.R_far (p := ⟨gb115, 1, none⟩) (Kd.R_far (p := ⟨gb115, 0, none⟩) (Kd.R_mono HO_4.out (fun k_ hk => (⟨hk, hk.2⟩ : _ ∧ k_ ≠ gb115))) (fun _ hk => hk.2) (.int .i64 t111)) (fun _ hk => hk.2) (.string t112)) (fun _ hk => hk.2) (.int .i64 t113)) (fun _ hk => hk.2) (.int .i64 x5_1)) (fun _ hk => hk.1.2))); (case aS => exact (below_size (by repeat (first | (with_reducible first | exact HB.out | apply below_alloc | apply pw_below_drewN | apply below_drew1 | refine below_set ?_ GE115.out) | exact HB.out)))); (case aL => have := LMc11.out; omega); intro v117 w19 ho hb hg hat; rw [← Ny116.out] at ho; have n0_ := Aside0.mk (blk_grown (g := gb115) (o := .cells #[.int .i64 t111, .string t112, .int .i64 x5_1] 25 (0, 0)) (by (with_reducible repeat (first | refine blk_drewN ?_ _ | refine blk_drew ?_ | refine blk_alloc ?_ _)); refine blk_put (cs := #[.int .i64 t111, .string t112, .int .i64 t113]) ?_ 2 _ rfl; (with_reducible repeat (first | refine blk_drewN ?_ _ | refine blk_drew ?_ | refine blk_alloc ?_ _)); refine blk_put (cs := #[.int .i64 t111, .string t112, .int .i64 0]) ?_ 2 _ rfl; (with_reducible repeat (first | refine blk_drewN ?_ _ | refine blk_drew ?_ | refine blk_alloc ?_ _)); refine blk_put (cs := #[.int .i64 t111, .string (⟨#[]⟩ : ByteArray), .int .i64 0]) ?_ 1 _ rfl; (with_reducible repeat (first | refine blk_drewN ?_ _ | refine blk_drew ?_ | refine blk_alloc ?_ _)); refine blk_put (cs := #[.int .i64 0, .string (⟨#[]⟩ : ByteArray), .int .i64 0]) ?_ 0 _ rfl; (with_reducible repeat (first | refine blk_drewN ?_ _ | refine blk_drew ?_ | refine blk_alloc ?_ _)); exact BK115.out) hg (Kd.R_away HO_4.out (fun _ hk => hk.2))); have n1_ := Aside0.mk (hb); have n2_ := Aside0.mk (ho); clear BK115; clear HB; clear HO_4; have BK115 := n0_; have HB := n1_; have HO118 := n2_; clear n0_ n1_ n2_; clear ho hb hg hat) | ((with_reducible refine gate_callee (f := 25) rfl ?_); refine goesL_ (some 38) rfl rfl Tryd.func25 (by kernel_rfl) rfl #[.string (a0.extract ((ji12) : Int).toNat a0.size)] rfl (by (try simp only [List.map_toArray, List.map_cons, List.map_nil]); first | done | (simp only [hji12]; rfl) | rfl | (simp only [List.length_drop, List.length_take]; rfl)) ?_; (with_reducible refine (lex_space.calls k1 (a0.extract ((ji12) : Int).toNat a0.size) t119 _ A15.out).mono ?_); rintro e w' ⟨rfl, ⟨nd, rfl⟩⟩; refine ⟨_, rfl, ?_⟩))
                    go_roundg k1
                    case measure => have := HK1.out; omega
                    case rel => exact ⟨(y116), (wrap64 ((ji12) + t119)), (by first | rfl | (simp; done) | (simp only [← hji12] <;> (first | rfl | simp)) | (simp [*]; done)), H', ⟨by have := HK1.out; omega⟩, ⟨by (with_reducible repeat (first | apply Kd.R_alloc | apply Kd.R_drewN | apply Kd.R_drew)); exact Kd.R_mono HO118.out (fun _ hk => trivial)⟩, ⟨by repeat (first | (with_reducible first | exact HB.out | apply below_alloc | apply pw_below_drewN | apply below_drew1 | refine below_set ?_ GE115.out) | exact HB.out)⟩⟩
                  · rw [if_neg c14] at H
                    exact absurd H (by simp)
                · rw [if_neg c13] at H
                  exact absurd H (by simp)
              · rw [if_neg c11] at H
                exact absurd H (by simp)
          · rw [if_neg c5] at H
            exact absurd H (by simp)
        · rw [if_neg c4] at H
          exact absurd H (by simp)
      · rw [if_neg c3] at H
        have c3b0 : decide (x5_1 < (a0.size : Int)) = false := decide_eq_false c3
        clear c3
        simp only [Option.some.injEq, Prod.mk.injEq] at H
        obtain ⟨rfl, rfl⟩ := H
        go_wp2
        go_ret2
        exact ⟨_, by first | rfl | (simp [errW_none, errW_some] <;> rfl) | (simp [*, errW_none, errW_some] <;> rfl), by (with_reducible repeat (first | apply Kd.R_alloc | apply Kd.R_drewN | apply Kd.R_drew)); exact HO_4.out, by repeat (first | (with_reducible first | exact HB.out | apply below_alloc | apply pw_below_drewN | apply below_drew1) | exact HB.out)⟩

/-! ### lex_Tokens: function 9 -/
def lex_Tokens.f (k : Nat) (a0 : ByteArray) : Option ((List (S25)) × Int × Int) := if (a0.size : Int) > 65536 then (some (([] : List (S25)), 0, 3)) else ((lex_known.f k a0).bind fun bt120 => (if bt120.2 ≥ 0 then (some (([] : List (S25)), bt120.2, 160)) else (some (bt120.1, 0, 0))))
theorem lex_Tokens.mono : ∀ a0 k, LeO (lex_Tokens.f k a0) (lex_Tokens.f (k + 1) a0) := by
  intro a0 k
  unfold lex_Tokens.f
  repeat' first
      | (with_reducible exact lex_known.mono _ _)
      | (with_reducible exact LeO.refl _)
      | (with_reducible exact LeO.none _)
      | (with_reducible refine LeO.ite ?_ ?_)
      | (with_reducible refine LeO.bind ?_ (fun _ => ?_))
      | exact lex_known.mono _ _
      | exact LeO.none _
      | refine LeO.ite ?_ ?_
      | refine LeO.bind ?_ (fun _ => ?_)
set_option maxHeartbeats 8000000 in
set_option maxRecDepth 100000 in
theorem lex_Tokens.calls (k : Nat) (a0 : ByteArray) (r1 : List (S25)) (r2 : Int) (r3 : Int) (w : World) (h : lex_Tokens.f k a0 = some (r1, r2, r3)) :
    Calls Tryd.prog 9 #[.string a0] w fun e w' => ∃ v0_ : Value, e = .returned (.tuple #[v0_, .int .i64 r2, .int .i64 r3]) ∧ Kd.R k25 25 w' w.heap.size (fun _ => True) v0_ r1 ∧ Below w.heap.size w w' := by
  have HB := Aside0.mk (Below.refl w.heap.size w)
  have H : (if (a0.size : Int) > 65536 then (some (([] : List (S25)), 0, 3)) else ((lex_known.f k a0).bind fun bt120 => (if bt120.2 ≥ 0 then (some (([] : List (S25)), bt120.2, 160)) else (some (bt120.1, 0, 0))))) = some (r1, r2, r3) := h
  clear h
  by_cases c2 : (a0.size : Int) > 65536
  · rw [if_pos c2] at H
    have c2b0 : decide (65536 < (a0.size : Int)) = true := decide_eq_true c2
    have c2b1 : decide (65536 < a0.size) = true := decide_eq_true (by omega)
    clear c2
    simp only [Option.some.injEq, Prod.mk.injEq] at H
    obtain ⟨rfl, rfl, rfl⟩ := H
    go_enter Tryd.func9, Tryd.ntmps9
    go_wp2
    go_ret3
    exact ⟨_, by first | rfl | (simp [errW_none, errW_some] <;> rfl) | (simp [*, errW_none, errW_some] <;> rfl), by first | exact Kd.R_nil _ _ _ _ _ | exact Kd.N_nil _ _ _ _ _ | exact Kd.V_nil _ _ _ _ _ | exact Kd.Q_nil _ _ _ _ _ | exact Kd.S_nil _ _ _ _ _, by repeat (first | (with_reducible first | exact HB.out | apply below_alloc | apply pw_below_drewN | apply below_drew1) | exact HB.out)⟩
  · rw [if_neg c2] at H
    have c2b0 : decide (65536 < (a0.size : Int)) = false := decide_eq_false c2
    have c2b1 : decide (65536 < a0.size) = false := decide_eq_false (by omega)
    clear c2
    replace H := Option.bind_eq_some_iff.mp H
    obtain ⟨⟨t120, t121⟩, A30, H⟩ := H
    replace H : (if t121 ≥ 0 then (some (([] : List (S25)), t121, 160)) else (some (t120, 0, 0))) = some (r1, r2, r3) := H
    have A3 := Aside0.mk A30
    clear A30
    by_cases c4 : t121 ≥ 0
    · rw [if_pos c4] at H
      have c4b0 : decide (0 ≤ t121) = true := decide_eq_true c4
      clear c4
      simp only [Option.some.injEq, Prod.mk.injEq] at H
      obtain ⟨rfl, rfl, rfl⟩ := H
      go_enter Tryd.func9, Tryd.ntmps9
      go_wp2_with (first | ((with_reducible refine gate_callee (f := 16) rfl ?_); refine goesL_ (some 12) rfl rfl Tryd.func16 (by kernel_rfl) rfl #[.string a0] rfl (by (try simp only [List.map_toArray, List.map_cons, List.map_nil]); first | done | rfl | (simp only [List.length_drop, List.length_take]; rfl)) ?_; (with_reducible refine (lex_known.calls k a0 t120 t121 _ A3.out).mono ?_); rintro e w5 ⟨v122, rfl, ho0, hb⟩; refine ⟨_, rfl, ?_⟩; have n0_ := Aside0.mk (Kd.R_lower ho0 (below_size (by repeat (first | (with_reducible first | exact HB.out | apply below_alloc | apply pw_below_drewN | apply below_drew1) | exact HB.out)))); have n1_ := Aside0.mk (below_step (by repeat (first | (with_reducible first | exact HB.out | apply below_alloc | apply pw_below_drewN | apply below_drew1) | exact HB.out)) hb); clear HB; have HO123 := n0_; have HB := n1_; clear n0_ n1_; (try clear hb); (try clear hb2); (try clear hk); (try clear hi); (try clear ho0)))
      go_ret3
      exact ⟨_, by first | rfl | (simp [errW_none, errW_some] <;> rfl) | (simp [*, errW_none, errW_some] <;> rfl), by first | exact Kd.R_nil _ _ _ _ _ | exact Kd.N_nil _ _ _ _ _ | exact Kd.V_nil _ _ _ _ _ | exact Kd.Q_nil _ _ _ _ _ | exact Kd.S_nil _ _ _ _ _, by repeat (first | (with_reducible first | exact HB.out | apply below_alloc | apply pw_below_drewN | apply below_drew1) | exact HB.out)⟩
    · rw [if_neg c4] at H
      have c4b0 : decide (0 ≤ t121) = false := decide_eq_false c4
      clear c4
      simp only [Option.some.injEq, Prod.mk.injEq] at H
      obtain ⟨rfl, rfl, rfl⟩ := H
      go_enter Tryd.func9, Tryd.ntmps9
      go_wp2_with (first | ((with_reducible refine gate_callee (f := 16) rfl ?_); refine goesL_ (some 12) rfl rfl Tryd.func16 (by kernel_rfl) rfl #[.string a0] rfl (by (try simp only [List.map_toArray, List.map_cons, List.map_nil]); first | done | rfl | (simp only [List.length_drop, List.length_take]; rfl)) ?_; (with_reducible refine (lex_known.calls k a0 t120 t121 _ A3.out).mono ?_); rintro e w6 ⟨v122, rfl, ho0, hb⟩; refine ⟨_, rfl, ?_⟩; have n0_ := Aside0.mk (Kd.R_lower ho0 (below_size (by repeat (first | (with_reducible first | exact HB.out | apply below_alloc | apply pw_below_drewN | apply below_drew1) | exact HB.out)))); have n1_ := Aside0.mk (below_step (by repeat (first | (with_reducible first | exact HB.out | apply below_alloc | apply pw_below_drewN | apply below_drew1) | exact HB.out)) hb); clear HB; have HO123 := n0_; have HB := n1_; clear n0_ n1_; (try clear hb); (try clear hb2); (try clear hk); (try clear hi); (try clear ho0)))
      go_ret3
      exact ⟨_, by first | rfl | (simp [errW_none, errW_some] <;> rfl) | (simp [*, errW_none, errW_some] <;> rfl), by (with_reducible repeat (first | apply Kd.R_alloc | apply Kd.R_drewN | apply Kd.R_drew)); exact HO123.out, by repeat (first | (with_reducible first | exact HB.out | apply below_alloc | apply pw_below_drewN | apply below_drew1) | exact HB.out)⟩

/-! ### colonnadelaw16_begun: function 6 -/
def colonnadelaw16_begun.f (k : Nat)  : Option (Bool) := (lex_Tokens.f k (⟨#[65, 60, 62, 49, 46, 53]⟩ : ByteArray)).bind fun bt124 => (if bt124.2.2 = 0 then (if (bt124.1.length : Int) = 3 then (if 0 < (bt124.1.length : Int) then (if (((rd_T25 bt124.1 0).f0) == 1 && ((((rd_T25 bt124.1 0).f1).toList) == ([97] : List UInt8) && (((rd_T25 bt124.1 0).f2) == 0))) = true then (if 1 < (bt124.1.length : Int) then (if (((rd_T25 bt124.1 1).f0) == 4 && ((((rd_T25 bt124.1 1).f1).toList) == ([60, 62] : List UInt8) && (((rd_T25 bt124.1 1).f2) == 1))) = true then (if 2 < (bt124.1.length : Int) then (some (((rd_T25 bt124.1 2).f0) == 2 && ((((rd_T25 bt124.1 2).f1).toList) == ([49, 46, 53] : List UInt8) && (((rd_T25 bt124.1 2).f2) == 3)))) else (none)) else (none)) else (none)) else (none)) else (none)) else (none)) else (none))
theorem colonnadelaw16_begun.mono : ∀ k, LeO (colonnadelaw16_begun.f k ) (colonnadelaw16_begun.f (k + 1) ) := by
  intro  k
  unfold colonnadelaw16_begun.f
  repeat' first
      | (with_reducible exact lex_Tokens.mono _ _)
      | (with_reducible exact LeO.refl _)
      | (with_reducible exact LeO.none _)
      | (with_reducible refine LeO.ite ?_ ?_)
      | (with_reducible refine LeO.bind ?_ (fun _ => ?_))
      | exact lex_Tokens.mono _ _
      | exact LeO.none _
      | refine LeO.ite ?_ ?_
      | refine LeO.bind ?_ (fun _ => ?_)
set_option maxHeartbeats 8000000 in
set_option maxRecDepth 100000 in
theorem colonnadelaw16_begun.calls (k : Nat)  (r : Bool) (w : World) (h : colonnadelaw16_begun.f k  = some r) :
    Calls Tryd.prog 6 #[] w fun e w' => e = .returned (.bool r) ∧ Below w.heap.size w w' := by
  have hu25 := Tryd.underlying25
  have HB := Aside0.mk (Below.refl w.heap.size w)
  have H : ((lex_Tokens.f k (⟨#[65, 60, 62, 49, 46, 53]⟩ : ByteArray)).bind fun bt124 => (if bt124.2.2 = 0 then (if (bt124.1.length : Int) = 3 then (if 0 < (bt124.1.length : Int) then (if (((rd_T25 bt124.1 0).f0) == 1 && ((((rd_T25 bt124.1 0).f1).toList) == ([97] : List UInt8) && (((rd_T25 bt124.1 0).f2) == 0))) = true then (if 1 < (bt124.1.length : Int) then (if (((rd_T25 bt124.1 1).f0) == 4 && ((((rd_T25 bt124.1 1).f1).toList) == ([60, 62] : List UInt8) && (((rd_T25 bt124.1 1).f2) == 1))) = true then (if 2 < (bt124.1.length : Int) then (some (((rd_T25 bt124.1 2).f0) == 2 && ((((rd_T25 bt124.1 2).f1).toList) == ([49, 46, 53] : List UInt8) && (((rd_T25 bt124.1 2).f2) == 3)))) else (none)) else (none)) else (none)) else (none)) else (none)) else (none)) else (none))) = some r := h
  clear h
  replace H := Option.bind_eq_some_iff.mp H
  obtain ⟨⟨t124, t125, t126⟩, A10, H⟩ := H
  replace H : (if t126 = 0 then (if (t124.length : Int) = 3 then (if 0 < (t124.length : Int) then (if (((rd_T25 t124 0).f0) == 1 && ((((rd_T25 t124 0).f1).toList) == ([97] : List UInt8) && (((rd_T25 t124 0).f2) == 0))) = true then (if 1 < (t124.length : Int) then (if (((rd_T25 t124 1).f0) == 4 && ((((rd_T25 t124 1).f1).toList) == ([60, 62] : List UInt8) && (((rd_T25 t124 1).f2) == 1))) = true then (if 2 < (t124.length : Int) then (some (((rd_T25 t124 2).f0) == 2 && ((((rd_T25 t124 2).f1).toList) == ([49, 46, 53] : List UInt8) && (((rd_T25 t124 2).f2) == 3)))) else (none)) else (none)) else (none)) else (none)) else (none)) else (none)) else (none)) = some r := H
  have A1 := Aside0.mk A10
  clear A10
  by_cases c2 : t126 = 0
  · rw [if_pos c2] at H
    have c2b0 : (t126 == 0) = true := beq_iff_eq.mpr c2
    have c2b1 : (t126 != 0) = false := bne_eq_false_iff_eq.mpr c2
    clear c2
    by_cases c3 : (t124.length : Int) = 3
    · rw [if_pos c3] at H
      have c3b0 : ((t124.length : Int) == 3) = true := beq_iff_eq.mpr c3
      have c3b1 : ((t124.length : Int) != 3) = false := bne_eq_false_iff_eq.mpr c3
      clear c3
      by_cases c4 : 0 < (t124.length : Int)
      · rw [if_pos c4] at H
        have c4b0 : decide (0 < (t124.length : Int)) = true := decide_eq_true c4
        have c4b1 : decide (0 < t124.length) = true := decide_eq_true (by omega)
        clear c4
        by_cases c5 : (((rd_T25 t124 0).f0) == 1 && ((((rd_T25 t124 0).f1).toList) == ([97] : List UInt8) && (((rd_T25 t124 0).f2) == 0))) = true
        · rw [if_pos c5] at H
          have c5b0 : (((rd_T25 t124 0).f0) == 1 && ((((rd_T25 t124 0).f1).toList) == ([97] : List UInt8) && (((rd_T25 t124 0).f2) == 0))) = true := c5
          (try (have c5b1 : decide (((rd_T25 t124 0).f0) = 1 && ((((rd_T25 t124 0).f1).toList) == ([97] : List UInt8) && (((rd_T25 t124 0).f2) == 0))) = true := by simpa using c5))
          (try (have c5b2 : (((rd_T25 t124 0).f0) == 1 && ((((rd_T25 t124 0).f1).toList) == ([97] : List UInt8) && (((rd_T25 t124 0).f2) == 0))) = true := by simpa using c5))
          clear c5
          by_cases c6 : 1 < (t124.length : Int)
          · rw [if_pos c6] at H
            have c6b0 : decide (1 < (t124.length : Int)) = true := decide_eq_true c6
            have c6b1 : decide (1 < t124.length) = true := decide_eq_true (by omega)
            clear c6
            by_cases c7 : (((rd_T25 t124 1).f0) == 4 && ((((rd_T25 t124 1).f1).toList) == ([60, 62] : List UInt8) && (((rd_T25 t124 1).f2) == 1))) = true
            · rw [if_pos c7] at H
              have c7b0 : (((rd_T25 t124 1).f0) == 4 && ((((rd_T25 t124 1).f1).toList) == ([60, 62] : List UInt8) && (((rd_T25 t124 1).f2) == 1))) = true := c7
              (try (have c7b1 : decide (((rd_T25 t124 1).f0) = 4 && ((((rd_T25 t124 1).f1).toList) == ([60, 62] : List UInt8) && (((rd_T25 t124 1).f2) == 1))) = true := by simpa using c7))
              (try (have c7b2 : (((rd_T25 t124 1).f0) == 4 && ((((rd_T25 t124 1).f1).toList) == ([60, 62] : List UInt8) && (((rd_T25 t124 1).f2) == 1))) = true := by simpa using c7))
              clear c7
              by_cases c8 : 2 < (t124.length : Int)
              · rw [if_pos c8] at H
                have c8b0 : decide (2 < (t124.length : Int)) = true := decide_eq_true c8
                have c8b1 : decide (2 < t124.length) = true := decide_eq_true (by omega)
                clear c8
                obtain rfl := Option.some.inj H
                go_enter Tryd.func6, Tryd.ntmps6
                go_wp2_with (first | ((with_reducible refine gate_callee (f := 9) rfl ?_); refine goesL_ (some 5) rfl rfl Tryd.func9 (by kernel_rfl) rfl #[.string (⟨#[65, 60, 62, 49, 46, 53]⟩ : ByteArray)] rfl (by (try simp only [List.map_toArray, List.map_cons, List.map_nil]); first | done | rfl | (simp only [List.length_drop, List.length_take]; rfl)) ?_; (with_reducible refine (lex_Tokens.calls k (⟨#[65, 60, 62, 49, 46, 53]⟩ : ByteArray) t124 t125 t126 _ A1.out).mono ?_); rintro e w9 ⟨v127, rfl, ho0, hb⟩; refine ⟨_, rfl, ?_⟩; have n0_ := Aside0.mk (Kd.R_lower ho0 (below_size (by repeat (first | (with_reducible first | exact HB.out | apply below_alloc | apply pw_below_drewN | apply below_drew1) | exact HB.out)))); have n1_ := Aside0.mk (below_step (by repeat (first | (with_reducible first | exact HB.out | apply below_alloc | apply pw_below_drewN | apply below_drew1) | exact HB.out)) hb); clear HB; have HO128 := n0_; have HB := n1_; clear n0_ n1_; (try clear hb); (try clear hb2); (try clear hk); (try clear hi); (try clear ho0); obtain ⟨Ao10, co10, eo10⟩ := Kd.R_slice HO128.out; subst eo10; have p129 : 0 ≤ (0 : Int) := (by omega); have q129 : 0 < (t124.length : Int) := of_decide_eq_true (by first | (with_reducible assumption) | assumption); obtain ⟨ad129, e129, hx129_0, hx129_1, hx129_2⟩ := at_T25 (Kd.R_reads' HO128.out).2.2 0 p129 q129; cases e129; have qi129 : (0 < t124.length) = True := eq_true (by omega); (try rw [show ((0 : Int)).toNat = 0 from rfl] at hx129_0); (try rw [show 0 * 3 = 0 from rfl] at hx129_0); (try rw [Addr.add_zero'] at hx129_0); (try rw [show ((0 : Int)).toNat = 0 from rfl] at hx129_1); (try rw [show 0 * 3 = 0 from rfl] at hx129_1); (try rw [Addr.add_zero'] at hx129_1); (try rw [show ((0 : Int)).toNat = 0 from rfl] at hx129_2); (try rw [show 0 * 3 = 0 from rfl] at hx129_2); (try rw [Addr.add_zero'] at hx129_2); replace p129 := eq_true p129; replace q129 := eq_true q129; have p130 : 0 ≤ (1 : Int) := (by omega); have q130 : 1 < (t124.length : Int) := of_decide_eq_true (by first | (with_reducible assumption) | assumption); obtain ⟨ad130, e130, hx130_0, hx130_1, hx130_2⟩ := at_T25 (Kd.R_reads' HO128.out).2.2 1 p130 q130; obtain rfl : ad129 = ad130 := (by injection e130); (try simp only [show (1 : Int).toNat = 1 from rfl, Nat.reduceMul, Nat.reduceEqDiff, Go.Addr.add, ↓reduceIte] at hx130_0); (try simp only [show (1 : Int).toNat = 1 from rfl, Nat.reduceMul, Nat.reduceEqDiff, Go.Addr.add, ↓reduceIte] at hx130_1); (try simp only [show (1 : Int).toNat = 1 from rfl, Nat.reduceMul, Nat.reduceEqDiff, Go.Addr.add, ↓reduceIte] at hx130_2); have qi130 : (1 < t124.length) = True := eq_true (by omega); (try rw [show ((1 : Int)).toNat = 1 from rfl] at hx130_0); (try rw [show 1 * 3 = 3 from rfl] at hx130_0); (try rw [show ((1 : Int)).toNat = 1 from rfl] at hx130_1); (try rw [show 1 * 3 = 3 from rfl] at hx130_1); (try rw [show ((1 : Int)).toNat = 1 from rfl] at hx130_2); (try rw [show 1 * 3 = 3 from rfl] at hx130_2); replace p130 := eq_true p130; replace q130 := eq_true q130; have p131 : 0 ≤ (2 : Int) := (by omega); have q131 : 2 < (t124.length : Int) := of_decide_eq_true (by first | (with_reducible assumption) | assumption); obtain ⟨ad131, e131, hx131_0, hx131_1, hx131_2⟩ := at_T25 (Kd.R_reads' HO128.out).2.2 2 p131 q131; obtain rfl : ad129 = ad131 := (by injection e131); (try simp only [show (2 : Int).toNat = 2 from rfl, Nat.reduceMul, Nat.reduceEqDiff, Go.Addr.add, ↓reduceIte] at hx131_0); (try simp only [show (2 : Int).toNat = 2 from rfl, Nat.reduceMul, Nat.reduceEqDiff, Go.Addr.add, ↓reduceIte] at hx131_1); (try simp only [show (2 : Int).toNat = 2 from rfl, Nat.reduceMul, Nat.reduceEqDiff, Go.Addr.add, ↓reduceIte] at hx131_2); have qi131 : (2 < t124.length) = True := eq_true (by omega); (try rw [show ((2 : Int)).toNat = 2 from rfl] at hx131_0); (try rw [show 2 * 3 = 6 from rfl] at hx131_0); (try rw [show ((2 : Int)).toNat = 2 from rfl] at hx131_1); (try rw [show 2 * 3 = 6 from rfl] at hx131_1); (try rw [show ((2 : Int)).toNat = 2 from rfl] at hx131_2); (try rw [show 2 * 3 = 6 from rfl] at hx131_2); replace p131 := eq_true p131; replace q131 := eq_true q131))
                go_ret
                exact ⟨by first | rfl | (simp [errW_none, errW_some] <;> rfl) | (simp [*, errW_none, errW_some] <;> rfl), by repeat (first | (with_reducible first | exact HB.out | apply below_alloc | apply pw_below_drewN | apply below_drew1) | exact HB.out)⟩
              · rw [if_neg c8] at H
                exact absurd H (by simp)
            · rw [if_neg c7] at H
              exact absurd H (by simp)
          · rw [if_neg c6] at H
            exact absurd H (by simp)
        · rw [if_neg c5] at H
          exact absurd H (by simp)
      · rw [if_neg c4] at H
        exact absurd H (by simp)
    · rw [if_neg c3] at H
      exact absurd H (by simp)
  · rw [if_neg c2] at H
    exact absurd H (by simp)

/-! ### strings_ReplaceAll: function 17, by hand -/
def strings_ReplaceAll.f (a0 : ByteArray) (a1 : ByteArray) (a2 : ByteArray) : Option (ByteArray) := if a0.size < 4294967281 ∧ 1 ≤ a1.size ∧ a0.size + Lib.countB a0 a1 * a2.size ≤ 140737488355328 then some ⟨(Lib.replaceAll a0.data.toList a1.data.toList a2.data.toList).toArray⟩ else none
theorem strings_ReplaceAll.calls (a0 : ByteArray) (a1 : ByteArray) (a2 : ByteArray) (r : ByteArray) (w : World) (h : strings_ReplaceAll.f a0 a1 a2 = some r) (hG : Gl w) :
    Calls Tryd.prog 17 #[.string a0, .string a1, .string a2] w fun e w' => e = .returned (.string r) ∧ Below w.heap.size w w' := by
  unfold strings_ReplaceAll.f at h
  by_cases h1 : a0.size < 4294967281 ∧ 1 ≤ a1.size ∧ a0.size + Lib.countB a0 a1 * a2.size ≤ 140737488355328
  · rw [if_pos h1] at h
    obtain rfl := Option.some.inj h
    obtain ⟨m, hm⟩ := hG.len
    exact Tryd.strings_ReplaceAll a0 a1 a2 m w h1.1 hm h1.2.1 h1.2.2
  · rw [if_neg h1] at h; exact absurd h (by simp)


/-! ### strings_Join: function 18, by hand -/
def strings_Join.f (l0 : List ByteArray) (a1 : ByteArray) : Option (ByteArray) := if l0.length ≤ 140737488355328 ∧ (Lib.join (l0.map (·.data.toList)) a1.data.toList).length ≤ 140737488355328 then some ⟨(Lib.join (l0.map (·.data.toList)) a1.data.toList).toArray⟩ else none
theorem strings_Join.calls (A0 : Option Addr) (c0 : Nat) (l0 : List ByteArray) (a1 : ByteArray) (r : ByteArray) (w : World) (hr0 : Kd.C Kd.string w A0 l0.length l0) (hc0 : l0.length ≤ c0) (h : strings_Join.f l0 a1 = some r) :
    Calls Tryd.prog 18 #[.slice A0 l0.length c0, .string a1] w fun e w' => e = .returned (.string r) ∧ Below w.heap.size w w' := by
  unfold strings_Join.f at h
  by_cases h1 : l0.length ≤ 140737488355328 ∧ (Lib.join (l0.map (·.data.toList)) a1.data.toList).length ≤ 140737488355328
  · rw [if_pos h1] at h
    obtain rfl := Option.some.inj h
    have hat : ∀ j : Nat, j < l0.length → ∃ ad, A0 = some ad ∧ w.cell? (ad.add j) = some (.string (l0.getD j ⟨#[]⟩)) := by
      intro j hj
      obtain ⟨ad, c, e, hl, hK, hc⟩ := Kd.C_get hr0 (⟨#[]⟩ : ByteArray) (j : Int) (by omega) (by omega)
      refine ⟨ad, e, ?_⟩
      have hK' : c = [.string (l0.getD j ⟨#[]⟩)] := hK
      have := hc 0 (.string (l0.getD j ⟨#[]⟩)) (by rw [hK']; rfl)
      simpa [Kd.string, Kd.scalar] using this
    cases hl : l0 with
    | nil =>
      subst hl
      refine (Tryd.strings_Join_none A0 c0 a1 w).mono ?_
      rintro e w' ⟨rfl, rfl⟩
      exact ⟨rfl, Below.refl _ _⟩
    | cons x xs =>
      rw [← hl]
      obtain ⟨ad, rfl, h0⟩ := hat 0 (by rw [hl]; simp)
      obtain ⟨bk, o, sp⟩ := ad
      have h0' : w.cell? ⟨bk, o, sp⟩ = some (.string (l0.getD 0 ⟨#[]⟩)) := by simpa [Addr.add] using h0
      have hsp : sp = none := by
        unfold World.cell? at h0'
        cases ho : w.heap[bk]? with
        | none => simp [ho] at h0'
        | some ob =>
          cases ob <;> simp [ho] at h0'
          cases sp with
          | none => rfl
          | some q => simp at h0'
      subst hsp
      have hb : bk < w.heap.size := by
        unfold World.cell? at h0'
        cases ho : w.heap[bk]? with
        | none => simp [ho] at h0'
        | some ob => exact (Array.getElem?_eq_some_iff.1 ho).1
      refine Tryd.strings_Join bk o c0 l0 a1 w ?_ hb h1.1 hc0 h1.2
      intro j x hj
      have hlt : j < l0.length := (List.getElem?_eq_some_iff.1 hj).1
      obtain ⟨ad', e', h'⟩ := hat j hlt
      obtain rfl := Option.some.inj e'
      rw [List.getD_eq_getElem?_getD, hj] at h'
      by_cases hz : j = 0
      · subst hz; simpa [Addr.add] using h'
      · simpa [Addr.add, hz] using h'
  · rw [if_neg h1] at h; exact absurd h (by simp)


/-! ### lex_Join: function 8 -/
def lex_Join.l0 : Nat → List ByteArray → List (S25) → Int → Int → Option (ByteArray)
  | 0, _, _, _, _ => none
  | k + 1, x3, x6, x7, x8 => if x8 < x7 then (if 0 ≤ x8 then (if x8 < (x6.length : Int) then (if ((rd_T25 x6 x8).f0) = 3 then ((strings_ReplaceAll.f ((rd_T25 x6 x8).f1) (⟨#[39]⟩ : ByteArray) (⟨#[39, 39]⟩ : ByteArray)).bind fun t134 => (if 1 + t134.size ≤ 9223372036854775807 then (if ((⟨#[39]⟩ : ByteArray) ++ t134).size + 1 ≤ 9223372036854775807 then (if x3.length < 8796093022208 then (lex_Join.l0 k (x3 ++ [((⟨#[39]⟩ : ByteArray) ++ t134) ++ (⟨#[39]⟩ : ByteArray)]) x6 x7 (wrap64 (x8 + 1))) else (none)) else (none)) else (none))) else (if x3.length < 8796093022208 then (lex_Join.l0 k (x3 ++ [(rd_T25 x6 x8).f1]) x6 x7 (wrap64 (x8 + 1))) else (none))) else (none)) else (none)) else ((strings_Join.f x3 (⟨#[32]⟩ : ByteArray)).bind fun t141 => (some t141))
def lex_Join.f (k : Nat) (l0 : List (S25)) : Option (ByteArray) := lex_Join.l0 k ([] : List ByteArray) l0 (l0.length : Int) 0
theorem lex_Join.mono_l : ∀ k, (∀ y0 y1 y2 y3, LeO (lex_Join.l0 k y0 y1 y2 y3) (lex_Join.l0 (k + 1) y0 y1 y2 y3))
  | 0 => fun _ _ _ _ r h => by simp [lex_Join.l0] at h
  | k + 1 => by
    have ih0 := lex_Join.mono_l k
    · intro y0 y1 y2 y3
      unfold lex_Join.l0
      repeat' first
      | (with_reducible exact ih0 _ _ _ _)
      | (with_reducible exact LeO.refl _)
      | (with_reducible exact LeO.none _)
      | (with_reducible refine LeO.ite ?_ ?_)
      | (with_reducible refine LeO.bind ?_ (fun _ => ?_))
      | exact ih0 _ _ _ _
      | exact LeO.none _
      | refine LeO.ite ?_ ?_
      | refine LeO.bind ?_ (fun _ => ?_)
theorem lex_Join.mono : ∀ a0 k, LeO (lex_Join.f k a0) (lex_Join.f (k + 1) a0) := by
  intro a0 k
  have ih0 := lex_Join.mono_l k
  unfold lex_Join.f
  repeat' first
      | (with_reducible exact ih0 _ _ _ _)
      | (with_reducible exact LeO.refl _)
      | (with_reducible exact LeO.none _)
      | (with_reducible refine LeO.ite ?_ ?_)
      | (with_reducible refine LeO.bind ?_ (fun _ => ?_))
      | exact ih0 _ _ _ _
      | exact LeO.none _
      | refine LeO.ite ?_ ?_
      | refine LeO.bind ?_ (fun _ => ?_)
set_option maxHeartbeats 8000000 in
set_option maxRecDepth 100000 in
theorem lex_Join.calls (k : Nat) (A0 : Option Addr) (c0 : Nat) (l0 : List (S25)) (r : ByteArray) (w : World) (hr0 : Kd.C k25 w A0 l0.length l0) (hc0 : l0.length ≤ c0) (h : lex_Join.f k l0 = some r) (hG : Gl w) :
    Calls Tryd.prog 8 #[.slice A0 l0.length c0] w fun e w' => e = .returned (.string r) ∧ Below w.heap.size w w' := by
  have HG := Aside0.mk hG
  clear hG
  have hu25 := Tryd.underlying25
  have HR0 := Aside0.mk hr0
  have HC0 := Aside0.mk hc0
  clear hr0 hc0
  have HB := Aside0.mk (Below.refl w.heap.size w)
  have H : (lex_Join.l0 k ([] : List ByteArray) l0 (l0.length : Int) 0) = some r := h
  clear h
  have H' := Aside0.mk H
  clear H
  go_enter Tryd.func8, Tryd.ntmps8
  go_wp2
  go_loopg [3, 8] k (fun kq v3 v8 w' => ∃ (x3_1 : List ByteArray) (x8_1 : Int), v8 = .int .i64 x8_1 ∧ Aside0 (lex_Join.l0 kq x3_1 l0 (l0.length : Int) x8_1 = some r) ∧ Aside0 (kq ≤ k) ∧ Aside0 (Kd.R Kd.string 9 w' w.heap.size (fun _ => True) v3 x3_1) ∧ Aside0 (Below w.heap.size w w'))
  case atStart => exact ⟨(([] : List ByteArray)), (0), (by first | rfl | (simp; done) | (simp [*]; done)), H', ⟨Nat.le_refl _⟩, ⟨by first | exact Kd.R_nil _ _ _ _ _ | exact Kd.N_nil _ _ _ _ _ | exact Kd.V_nil _ _ _ _ _ | exact Kd.Q_nil _ _ _ _ _ | exact Kd.S_nil _ _ _ _ _⟩, ⟨by repeat (first | (with_reducible first | exact HB.out | apply below_alloc | apply pw_below_drewN | apply below_drew1) | exact HB.out)⟩⟩
  case round =>
    clear H'
    obtain ⟨x3_1, x8_1, rfl, HA, HK1, HO_3, HB⟩ := hrel
    cases gk with
    | zero => exact absurd HA.out (by simp [lex_Join.l0])
    | succ k1 =>
      have H := HA.out
      clear HA
      simp only [lex_Join.l0] at H
      by_cases c2 : x8_1 < (l0.length : Int)
      · rw [if_pos c2] at H
        have c2b0 : decide (x8_1 < (l0.length : Int)) = true := decide_eq_true c2
        clear c2
        by_cases c3 : 0 ≤ x8_1
        · rw [if_pos c3] at H
          have c3b0 : decide (0 ≤ x8_1) = true := decide_eq_true c3
          clear c3
          by_cases c4 : x8_1 < (l0.length : Int)
          · rw [if_pos c4] at H
            have c4b0 : decide (x8_1 < (l0.length : Int)) = true := decide_eq_true c4
            clear c4
            by_cases c5 : ((rd_T25 l0 x8_1).f0) = 3
            · rw [if_pos c5] at H
              have c5b0 : (((rd_T25 l0 x8_1).f0) == 3) = true := beq_iff_eq.mpr c5
              have c5b1 : (((rd_T25 l0 x8_1).f0) != 3) = false := bne_eq_false_iff_eq.mpr c5
              clear c5
              replace H := Option.bind_eq_some_iff.mp H
              obtain ⟨t134, A60, H⟩ := H
              replace H : (if 1 + t134.size ≤ 9223372036854775807 then (if ((⟨#[39]⟩ : ByteArray) ++ t134).size + 1 ≤ 9223372036854775807 then (if x3_1.length < 8796093022208 then (lex_Join.l0 k1 (x3_1 ++ [((⟨#[39]⟩ : ByteArray) ++ t134) ++ (⟨#[39]⟩ : ByteArray)]) l0 (l0.length : Int) (wrap64 (x8_1 + 1))) else (none)) else (none)) else (none)) = some r := H
              have A6 := Aside0.mk A60
              clear A60
              by_cases c7 : 1 + t134.size ≤ 9223372036854775807
              · rw [if_pos c7] at H
                have c7b0 := eq_true c7
                (try (have c7n := c7; simp [size_lit] at c7n))
                have c7b1 : decide (1 + t134.size ≤ 9223372036854775807) = true := decide_eq_true c7
                try have c7b2 : (9223372036854775807 < 1 + t134.size) = False := eq_false (Nat.not_lt.2 c7)
                by_cases c8 : ((⟨#[39]⟩ : ByteArray) ++ t134).size + 1 ≤ 9223372036854775807
                · rw [if_pos c8] at H
                  have c8b0 := eq_true c8
                  (try (have c8n := c8; simp [size_lit] at c8n))
                  have c8b1 : decide (((⟨#[39]⟩ : ByteArray) ++ t134).size + 1 ≤ 9223372036854775807) = true := decide_eq_true c8
                  try have c8b2 : (9223372036854775807 < ((⟨#[39]⟩ : ByteArray) ++ t134).size + 1) = False := eq_false (Nat.not_lt.2 c8)
                  by_cases c9 : x3_1.length < 8796093022208
                  · rw [if_pos c9] at H
                    have LMc9 := Aside0.mk c9
                    clear c9
                    obtain ⟨y135, hy135⟩ : ∃ y_ : List ByteArray, y_ = (x3_1 ++ [((⟨#[39]⟩ : ByteArray) ++ t134) ++ (⟨#[39]⟩ : ByteArray)]) := ⟨_, rfl⟩
                    replace H : (lex_Join.l0 k1 y135 l0 (l0.length : Int) (wrap64 (x8_1 + 1))) = some r := by first | (rw [hy135]; with_reducible exact H) | (have H2_ := (Option.bind_some _ _).symm.trans H; rw [hy135]; with_reducible exact H2_) | (have H2_ := (Option.bind_some _ _).symm.trans H; with_reducible exact H2_) | with_reducible exact H | (rw [hy135]; exact H) | exact H
                    have Ny135 := Aside0.mk hy135
                    clear hy135
                    have H' := Aside0.mk H
                    clear H
                    have p132 : 0 ≤ (x8_1 : Int) := of_decide_eq_true (by first | (with_reducible assumption) | assumption)
                    have q132 : x8_1 < (l0.length : Int) := of_decide_eq_true (by first | (with_reducible assumption) | assumption)
                    obtain ⟨ad132, e132, hx132_0, hx132_1, hx132_2⟩ := at_T25 HR0.out x8_1 p132 q132
                    cases e132
                    replace hx132_0 := (HB.out.cell (World.block_lt_of_cell? w _ hx132_0)).trans hx132_0
                    replace hx132_1 := (HB.out.cell (World.block_lt_of_cell? w _ hx132_1)).trans hx132_1
                    replace hx132_2 := (HB.out.cell (World.block_lt_of_cell? w _ hx132_2)).trans hx132_2
                    replace p132 := eq_true p132
                    replace q132 := eq_true q132
                    go_wp2_with (first | ((with_reducible refine gate_dst (N := 5) rfl ?_); refine box_event ?hg (N := 5) ?hd (cs := #[.int .i64 0, .string (⟨#[]⟩ : ByteArray), .int .i64 0]) (t := 25) ?hr ?_; (case hd => rfl); (case hg => rfl); (case hr => first | (go_simp; done) | (go_simp; rfl)); intro gb133 hg w10 hbox hb; have n0_ := Aside0.mk (Kd.R_below (by (with_reducible repeat (first | apply Kd.R_alloc | apply Kd.R_drewN | apply Kd.R_drew)); exact HO_3.out) hb); have n1_ := Aside0.mk (below_step (by repeat (first | (with_reducible first | exact HB.out | apply below_alloc | apply pw_below_drewN | apply below_drew1) | exact HB.out)) hb); have n2_ := Aside0.mk (hbox); have n3_ := Aside0.mk ((by rw [hg]; exact (below_size (by repeat (first | (with_reducible first | exact HB.out | apply below_alloc | apply pw_below_drewN | apply below_drew1) | exact HB.out))) : w.heap.size ≤ gb133)); have n4_ := Aside0.mk ((by rw [hg]; exact (below_size (by repeat (first | (with_reducible first | exact HB.out | apply below_alloc | apply pw_below_drewN | apply below_drew1) | exact HB.out))) : w.heap.size ≤ gb133)); clear HO_3; clear HB; have HO_3 := n0_; have HB := n1_; have BK133 := n2_; have GW133 := n3_; have GE133 := n4_; clear n0_ n1_ n2_ n3_ n4_; clear hb hbox hg; have hcz11_0 : w10.cell? ⟨gb133, 0, none⟩ = some (.int .i64 0) := (blk_cell BK133.out 0).trans rfl; have hcz11_1 : w10.cell? ⟨gb133, 1, none⟩ = some (.string (⟨#[]⟩ : ByteArray)) := (blk_cell BK133.out 1).trans rfl; have hcz11_2 : w10.cell? ⟨gb133, 2, none⟩ = some (.int .i64 0) := (blk_cell BK133.out 2).trans rfl; have hfz11_0 := blk_frozen BK133.out 0; have hfz11_1 := blk_frozen BK133.out 1; have hfz11_2 := blk_frozen BK133.out 2) | ((with_reducible refine gate_callee (f := 17) rfl ?_); refine goesL_ (some 17) rfl rfl Tryd.func17 (by kernel_rfl) rfl #[.string ((rd_T25 l0 x8_1).f1), .string (⟨#[39]⟩ : ByteArray), .string (⟨#[39, 39]⟩ : ByteArray)] rfl (by (try simp only [List.map_toArray, List.map_cons, List.map_nil]); first | done | rfl | (simp only [List.length_drop, List.length_take]; rfl)) ?_; (with_reducible refine (strings_ReplaceAll.calls ((rd_T25 l0 x8_1).f1) (⟨#[39]⟩ : ByteArray) (⟨#[39, 39]⟩ : ByteArray) t134 _ A6.out (Gl.of HG.out (by repeat (first | exact HB.out | apply below_alloc | apply pw_below_drewN | apply below_drew1 | refine below_set ?_ GE133.out)))).mono ?_); rintro e w12 ⟨rfl, hb⟩; refine ⟨_, rfl, ?_⟩; have n0_ := Aside0.mk (Kd.R_below (by (with_reducible repeat (first | apply Kd.R_alloc | apply Kd.R_drewN | apply Kd.R_drew)); exact (Kd.R_mono (Kd.R_far (p := ⟨gb133, 2, none⟩) (Kd.R_far (p := ⟨gb133, 1, none⟩) (Kd.R_far (p := ⟨gb133, 0, none⟩) (Kd.R_types HO_3.out BK133.out (by decide)) (fun _ hk => hk.2) (.int .i64 ((rd_T25 l0 x8_1).f0))) (fun _ hk => hk.2) (.string ((rd_T25 l0 x8_1).f1))) (fun _ hk => hk.2) (.int .i64 ((rd_T25 l0 x8_1).f2))) (fun _ h_ => h_.1))) hb); have n1_ := Aside0.mk (blk_below (g := gb133) (o := .cells #[.int .i64 ((rd_T25 l0 x8_1).f0), .string ((rd_T25 l0 x8_1).f1), .int .i64 ((rd_T25 l0 x8_1).f2)] 25 (0, 0)) (by (with_reducible repeat (first | refine blk_drewN ?_ _ | refine blk_drew ?_ | refine blk_alloc ?_ _)); refine blk_put (cs := #[.int .i64 ((rd_T25 l0 x8_1).f0), .string ((rd_T25 l0 x8_1).f1), .int .i64 0]) ?_ 2 _ rfl; (with_reducible repeat (first | refine blk_drewN ?_ _ | refine blk_drew ?_ | refine blk_alloc ?_ _)); refine blk_put (cs := #[.int .i64 ((rd_T25 l0 x8_1).f0), .string (⟨#[]⟩ : ByteArray), .int .i64 0]) ?_ 1 _ rfl; (with_reducible repeat (first | refine blk_drewN ?_ _ | refine blk_drew ?_ | refine blk_alloc ?_ _)); refine blk_put (cs := #[.int .i64 0, .string (⟨#[]⟩ : ByteArray), .int .i64 0]) ?_ 0 _ rfl; (with_reducible repeat (first | refine blk_drewN ?_ _ | refine blk_drew ?_ | refine blk_alloc ?_ _)); exact BK133.out) hb); have n2_ := Aside0.mk (below_step (by repeat (first | (with_reducible first | exact HB.out | apply below_alloc | apply pw_below_drewN | apply below_drew1 | refine below_set ?_ GE133.out) | exact HB.out)) hb); clear HO_3; clear BK133; clear HB; have HO_3 := n0_; have BK133 := n1_; have HB := n2_; clear n0_ n1_ n2_; (try clear hb); (try clear hb2); (try clear hk); (try clear hi); have hcz13_0 : w12.cell? ⟨gb133, 0, none⟩ = some (.int .i64 ((rd_T25 l0 x8_1).f0)) := (blk_cell BK133.out 0).trans rfl; have hcz13_1 : w12.cell? ⟨gb133, 1, none⟩ = some (.string ((rd_T25 l0 x8_1).f1)) := (blk_cell BK133.out 1).trans rfl; have hcz13_2 : w12.cell? ⟨gb133, 2, none⟩ = some (.int .i64 ((rd_T25 l0 x8_1).f2)) := (blk_cell BK133.out 2).trans rfl; have hfz13_0 := blk_frozen BK133.out 0; have hfz13_1 := blk_frozen BK133.out 1; have hfz13_2 := blk_frozen BK133.out 2) | ((with_reducible refine gate_builtin (b := .append) (xs := #[.tmp 21, .tmp 24]) rfl ?_); at_builtin; refine Kd.R_append Kd.string (w0 := w) w.heap.size rfl (.tmp 21) (.tmp 24) 33 9 (.string ⟨#[]⟩) 16 rfl Tryd.underlying33 info9 rfl (by decide) (by omega) u3 x3_1 (((⟨#[39]⟩ : ByteArray) ++ t134) ++ (⟨#[39]⟩ : ByteArray)) [.string (((⟨#[39]⟩ : ByteArray) ++ t134) ++ (⟨#[39]⟩ : ByteArray))] (fun _ => True) (fun _ => False) rfl (by first | (go_simp; done) | (go_simp; rfl)) ?aP (fun _ hk => hk.elim) ?aF ?aO ?aB ?aS ?aL ?_; (case aP => exact rfl); (case aB => exact (by repeat (first | (with_reducible first | exact HB.out | apply below_alloc | apply pw_below_drewN | apply below_drew1 | refine below_set ?_ GE133.out) | exact HB.out))); (case aF => exact (fun _ _ => trivial)); (case aO => exact (by (with_reducible repeat (first | apply Kd.R_alloc | apply Kd.R_drewN | apply Kd.R_drew)); exact Kd.R_mono (Kd.R_far (p := ⟨gb133, 1, none⟩) (Kd.R_types HO_3.out BK133.out (by decide)) (fun _ hk => hk.2) (.string (((⟨#[39]⟩ : ByteArray) ++ t134) ++ (⟨#[39]⟩ : ByteArray)))) (fun _ hk => trivial))); (case aS => exact (below_size (by repeat (first | (with_reducible first | exact HB.out | apply below_alloc | apply pw_below_drewN | apply below_drew1 | refine below_set ?_ GE133.out) | exact HB.out)))); (case aL => have := LMc9.out; omega); intro v136 w14 ho hb hg hat; rw [← Ny135.out] at ho; have n0_ := Aside0.mk (blk_grown (g := gb133) (o := .cells #[.int .i64 ((rd_T25 l0 x8_1).f0), .string (((⟨#[39]⟩ : ByteArray) ++ t134) ++ (⟨#[39]⟩ : ByteArray)), .int .i64 ((rd_T25 l0 x8_1).f2)] 25 (0, 0)) (by (with_reducible repeat (first | refine blk_drewN ?_ _ | refine blk_drew ?_ | refine blk_alloc ?_ _)); refine blk_put (cs := #[.int .i64 ((rd_T25 l0 x8_1).f0), .string ((rd_T25 l0 x8_1).f1), .int .i64 ((rd_T25 l0 x8_1).f2)]) ?_ 1 _ rfl; (with_reducible repeat (first | refine blk_drewN ?_ _ | refine blk_drew ?_ | refine blk_alloc ?_ _)); exact BK133.out) hg (Kd.R_ne HO_3.out BK133.out (by decide))); have n1_ := Aside0.mk (hb); have n2_ := Aside0.mk (ho); clear BK133; clear HB; clear HO_3; have BK133 := n0_; have HB := n1_; have HO137 := n2_; clear n0_ n1_ n2_; clear ho hb hg hat))
                    go_roundg k1
                    case measure => have := HK1.out; omega
                    case rel => exact ⟨(y135), (wrap64 (x8_1 + 1)), (by first | rfl | (simp; done) | (simp [*]; done)), H', ⟨by have := HK1.out; omega⟩, ⟨by (with_reducible repeat (first | apply Kd.R_alloc | apply Kd.R_drewN | apply Kd.R_drew)); exact HO137.out⟩, ⟨by repeat (first | (with_reducible first | exact HB.out | apply below_alloc | apply pw_below_drewN | apply below_drew1 | refine below_set ?_ GE133.out) | exact HB.out)⟩⟩
                  · rw [if_neg c9] at H
                    exact absurd H (by simp)
                · rw [if_neg c8] at H
                  exact absurd H (by simp)
              · rw [if_neg c7] at H
                exact absurd H (by simp)
            · rw [if_neg c5] at H
              have c5b0 : (((rd_T25 l0 x8_1).f0) == 3) = false := beq_eq_false_iff_ne.mpr c5
              have c5b1 : (((rd_T25 l0 x8_1).f0) != 3) = true := bne_iff_ne.mpr c5
              by_cases c15 : x3_1.length < 8796093022208
              · rw [if_pos c15] at H
                have LMc15 := Aside0.mk c15
                clear c15
                obtain ⟨y138, hy138⟩ : ∃ y_ : List ByteArray, y_ = (x3_1 ++ [(rd_T25 l0 x8_1).f1]) := ⟨_, rfl⟩
                replace H : (lex_Join.l0 k1 y138 l0 (l0.length : Int) (wrap64 (x8_1 + 1))) = some r := by first | (rw [hy138]; with_reducible exact H) | (have H2_ := (Option.bind_some _ _).symm.trans H; rw [hy138]; with_reducible exact H2_) | (have H2_ := (Option.bind_some _ _).symm.trans H; with_reducible exact H2_) | with_reducible exact H | (rw [hy138]; exact H) | exact H
                have Ny138 := Aside0.mk hy138
                clear hy138
                have H' := Aside0.mk H
                clear H
                have p132 : 0 ≤ (x8_1 : Int) := of_decide_eq_true (by first | (with_reducible assumption) | assumption)
                have q132 : x8_1 < (l0.length : Int) := of_decide_eq_true (by first | (with_reducible assumption) | assumption)
                obtain ⟨ad132, e132, hx132_0, hx132_1, hx132_2⟩ := at_T25 HR0.out x8_1 p132 q132
                cases e132
                replace hx132_0 := (HB.out.cell (World.block_lt_of_cell? w _ hx132_0)).trans hx132_0
                replace hx132_1 := (HB.out.cell (World.block_lt_of_cell? w _ hx132_1)).trans hx132_1
                replace hx132_2 := (HB.out.cell (World.block_lt_of_cell? w _ hx132_2)).trans hx132_2
                replace p132 := eq_true p132
                replace q132 := eq_true q132
                go_wp2_with (first | ((with_reducible refine gate_dst (N := 5) rfl ?_); refine box_event ?hg (N := 5) ?hd (cs := #[.int .i64 0, .string (⟨#[]⟩ : ByteArray), .int .i64 0]) (t := 25) ?hr ?_; (case hd => rfl); (case hg => rfl); (case hr => first | (go_simp; done) | (go_simp; rfl)); intro gb133 hg w16 hbox hb; have n0_ := Aside0.mk (Kd.R_below (by (with_reducible repeat (first | apply Kd.R_alloc | apply Kd.R_drewN | apply Kd.R_drew)); exact HO_3.out) hb); have n1_ := Aside0.mk (below_step (by repeat (first | (with_reducible first | exact HB.out | apply below_alloc | apply pw_below_drewN | apply below_drew1) | exact HB.out)) hb); have n2_ := Aside0.mk (hbox); have n3_ := Aside0.mk ((by rw [hg]; exact (below_size (by repeat (first | (with_reducible first | exact HB.out | apply below_alloc | apply pw_below_drewN | apply below_drew1) | exact HB.out))) : w.heap.size ≤ gb133)); have n4_ := Aside0.mk ((by rw [hg]; exact (below_size (by repeat (first | (with_reducible first | exact HB.out | apply below_alloc | apply pw_below_drewN | apply below_drew1) | exact HB.out))) : w.heap.size ≤ gb133)); clear HO_3; clear HB; have HO_3 := n0_; have HB := n1_; have BK133 := n2_; have GW133 := n3_; have GE133 := n4_; clear n0_ n1_ n2_ n3_ n4_; clear hb hbox hg; have hcz17_0 : w16.cell? ⟨gb133, 0, none⟩ = some (.int .i64 0) := (blk_cell BK133.out 0).trans rfl; have hcz17_1 : w16.cell? ⟨gb133, 1, none⟩ = some (.string (⟨#[]⟩ : ByteArray)) := (blk_cell BK133.out 1).trans rfl; have hcz17_2 : w16.cell? ⟨gb133, 2, none⟩ = some (.int .i64 0) := (blk_cell BK133.out 2).trans rfl; have hfz17_0 := blk_frozen BK133.out 0; have hfz17_1 := blk_frozen BK133.out 1; have hfz17_2 := blk_frozen BK133.out 2) | ((with_reducible refine gate_builtin (b := .append) (xs := #[.tmp 21, .tmp 24]) rfl ?_); at_builtin; refine Kd.R_append Kd.string (w0 := w) w.heap.size rfl (.tmp 21) (.tmp 24) 33 9 (.string ⟨#[]⟩) 16 rfl Tryd.underlying33 info9 rfl (by decide) (by omega) u3 x3_1 ((rd_T25 l0 x8_1).f1) [.string ((rd_T25 l0 x8_1).f1)] (fun _ => True) (fun _ => False) rfl (by first | (go_simp; done) | (go_simp; rfl)) ?aP (fun _ hk => hk.elim) ?aF ?aO ?aB ?aS ?aL ?_; (case aP => exact rfl); (case aB => exact (by repeat (first | (with_reducible first | exact HB.out | apply below_alloc | apply pw_below_drewN | apply below_drew1 | refine below_set ?_ GE133.out) | exact HB.out))); (case aF => exact (fun _ _ => trivial)); (case aO => exact (by (with_reducible repeat (first | apply Kd.R_alloc | apply Kd.R_drewN | apply Kd.R_drew)); exact Kd.R_mono (Kd.R_far (p := ⟨gb133, 2, none⟩) (Kd.R_far (p := ⟨gb133, 1, none⟩) (Kd.R_far (p := ⟨gb133, 0, none⟩) (Kd.R_types HO_3.out BK133.out (by decide)) (fun _ hk => hk.2) (.int .i64 ((rd_T25 l0 x8_1).f0))) (fun _ hk => hk.2) (.string ((rd_T25 l0 x8_1).f1))) (fun _ hk => hk.2) (.int .i64 ((rd_T25 l0 x8_1).f2))) (fun _ hk => trivial))); (case aS => exact (below_size (by repeat (first | (with_reducible first | exact HB.out | apply below_alloc | apply pw_below_drewN | apply below_drew1 | refine below_set ?_ GE133.out) | exact HB.out)))); (case aL => have := LMc15.out; omega); intro v139 w18 ho hb hg hat; rw [← Ny138.out] at ho; have n0_ := Aside0.mk (blk_grown (g := gb133) (o := .cells #[.int .i64 ((rd_T25 l0 x8_1).f0), .string ((rd_T25 l0 x8_1).f1), .int .i64 ((rd_T25 l0 x8_1).f2)] 25 (0, 0)) (by (with_reducible repeat (first | refine blk_drewN ?_ _ | refine blk_drew ?_ | refine blk_alloc ?_ _)); refine blk_put (cs := #[.int .i64 ((rd_T25 l0 x8_1).f0), .string ((rd_T25 l0 x8_1).f1), .int .i64 0]) ?_ 2 _ rfl; (with_reducible repeat (first | refine blk_drewN ?_ _ | refine blk_drew ?_ | refine blk_alloc ?_ _)); refine blk_put (cs := #[.int .i64 ((rd_T25 l0 x8_1).f0), .string (⟨#[]⟩ : ByteArray), .int .i64 0]) ?_ 1 _ rfl; (with_reducible repeat (first | refine blk_drewN ?_ _ | refine blk_drew ?_ | refine blk_alloc ?_ _)); refine blk_put (cs := #[.int .i64 0, .string (⟨#[]⟩ : ByteArray), .int .i64 0]) ?_ 0 _ rfl; (with_reducible repeat (first | refine blk_drewN ?_ _ | refine blk_drew ?_ | refine blk_alloc ?_ _)); exact BK133.out) hg (Kd.R_ne HO_3.out BK133.out (by decide))); have n1_ := Aside0.mk (hb); have n2_ := Aside0.mk (ho); clear BK133; clear HB; clear HO_3; have BK133 := n0_; have HB := n1_; have HO140 := n2_; clear n0_ n1_ n2_; clear ho hb hg hat))
                go_roundg k1
                case measure => have := HK1.out; omega
                case rel => exact ⟨(y138), (wrap64 (x8_1 + 1)), (by first | rfl | (simp; done) | (simp [*]; done)), H', ⟨by have := HK1.out; omega⟩, ⟨by (with_reducible repeat (first | apply Kd.R_alloc | apply Kd.R_drewN | apply Kd.R_drew)); exact HO140.out⟩, ⟨by repeat (first | (with_reducible first | exact HB.out | apply below_alloc | apply pw_below_drewN | apply below_drew1 | refine below_set ?_ GE133.out) | exact HB.out)⟩⟩
              · rw [if_neg c15] at H
                exact absurd H (by simp)
          · rw [if_neg c4] at H
            exact absurd H (by simp)
        · rw [if_neg c3] at H
          exact absurd H (by simp)
      · rw [if_neg c2] at H
        have c2b0 : decide (x8_1 < (l0.length : Int)) = false := decide_eq_false c2
        clear c2
        replace H := Option.bind_eq_some_iff.mp H
        obtain ⟨t141, A190, H⟩ := H
        replace H : (some t141) = some r := H
        have A19 := Aside0.mk A190
        clear A190
        obtain rfl := Option.some.inj H
        obtain ⟨Ao20, co20, eo20⟩ := Kd.R_slice HO_3.out
        subst eo20
        go_wp2_with (first | ((with_reducible refine gate_callee (f := 18) rfl ?_); refine goesL_ (some 28) rfl rfl Tryd.func18 (by kernel_rfl) rfl #[.slice Ao20 x3_1.length co20, .string (⟨#[32]⟩ : ByteArray)] rfl (by (try simp only [List.map_toArray, List.map_cons, List.map_nil]); first | done | rfl | (simp only [List.length_drop, List.length_take]; rfl)) ?_; (with_reducible refine (strings_Join.calls _ _ x3_1 (⟨#[32]⟩ : ByteArray) t141 _ ?side1 ?side2 A19.out).mono ?_); (case side1 => repeat (first | exact (Kd.R_reads' HO_3.out).2.2 | (with_reducible refine Kd.C_alloc ?_ _) | (with_reducible refine Kd.C_drewN ?_ _) | (with_reducible refine Kd.C_drew ?_))); (case side2 => exact (Kd.R_reads' HO_3.out).2.1); rintro e w21 ⟨rfl, hb⟩; refine ⟨_, rfl, ?_⟩; have n0_ := Aside0.mk (Kd.R_below (by (with_reducible repeat (first | apply Kd.R_alloc | apply Kd.R_drewN | apply Kd.R_drew)); exact HO_3.out) hb); have n1_ := Aside0.mk (below_step (by repeat (first | (with_reducible first | exact HB.out | apply below_alloc | apply pw_below_drewN | apply below_drew1) | exact HB.out)) hb); clear HO_3; clear HB; have HO_3 := n0_; have HB := n1_; clear n0_ n1_; (try clear hb); (try clear hb2); (try clear hk); (try clear hi)))
        go_ret
        exact ⟨by first | rfl | (simp [errW_none, errW_some] <;> rfl) | (simp [*, errW_none, errW_some] <;> rfl), by repeat (first | (with_reducible first | exact HB.out | apply below_alloc | apply pw_below_drewN | apply below_drew1) | exact HB.out)⟩

end Go.Proofs.YtmpamcfeijnafaaDoor.S
