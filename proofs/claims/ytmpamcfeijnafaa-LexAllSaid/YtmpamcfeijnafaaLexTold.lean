/- the law's 'told': true at an iterator that goes through what is wanted. -/
import Derived.Test.YtmpamcfeijnafaaLexIter
import Derived.Test.YtmpamcfeijnafaaStrB
import Derived.Test.YtmpamcfeijnafaaR16
namespace Go.Proofs.Ytmpamcfeijnafaa.Iter
open Go.RowKit Go.Proofs.Ytmpamcfeijnafaa.R Go.Proofs.YtmpamcfeijnafaaW.PrintWords Go.Proofs.YtmpamcfeijnafaaW.PrintLast Go.Proofs.YtmpamcfeijnafaaW.PrintMore
attribute [local go_sem] Oper.semAt_some
attribute [local go_sem high] eqA29

theorem tk_ext {x y : Tk} (h0 : x.f0 = y.f0) (h1 : x.f1 = y.f1) (h2 : x.f2 = y.f2) : x = y := by cases x; cases y; simp_all
theorem ba_ext {x y : ByteArray} (h : x.toList = y.toList) : x = y := by
  rw [Str.toList_eq, Str.toList_eq] at h
  exact ByteArray.ext (by rw [← Array.toList_inj]; exact h)
theorem snoc_prefix {xs pre : List Tk} (h : pre <+: xs) (hl : pre.length < xs.length) (x : Tk) : pre ++ [x] <+: xs ↔ x = rd_T29 xs (pre.length : Int) := by
  obtain ⟨t, rfl⟩ := h
  cases t with
  | nil => simp at hl
  | cons y t =>
    have : rd_T29 (pre ++ y :: t) (pre.length : Int) = y := by simp [rd_T29]
    rw [this, List.prefix_append_right_inj]
    simp [List.cons_prefix_cons]
theorem Boxed.otherS {W : World} {b b' : Nat} {t : TypeId} {v : Value} (h : Boxed W b t v) (hne : b ≠ b') (u : Value) : Boxed (W.setCell ⟨b', 0, none⟩ u) b t v := h.other hne u

set_option maxRecDepth 100000 in
set_option maxHeartbeats 8000000 in
theorem told_calls (k : Nat) (a0 : ByteArray) (xs : List Tk) (h : allOf k a0 = some xs) (Bt : Nat) (A : Option Addr) (c : Nat) (stop : Int) (w : World) (hBt : Bt < w.heap.size) (hc : w.cell? ⟨Bt, 0, none⟩ = some (.string a0))
    (hr : Kd.C kTk w A xs.length xs) (hl : xs.length ≤ c) :
    Calls Try.prog 11 #[.func (.func 15) #[] #[.pointer (some ⟨Bt, 0, none⟩)], .slice A xs.length c, .int .i64 stop] w fun e w' => e = .returned (.bool true) ∧ Below w.heap.size w w' := by
  refine (callsIn_wide (n := 9)).1 ?_
  refine callsIn_of_wp_marks Try.func11 rfl trivial ?_ rfl
  simp only [Try.ntmps11, List.size_toArray, List.length_cons, List.length_nil, Nat.reduceAdd, Nat.reduceSub, Array.replicate_succ, Array.replicate_zero, List.push_toArray, List.append_toArray, List.nil_append, List.cons_append]
  gi_wp2
  have e0 := (((Boxed.new w 22 (.slice A xs.length c)).alloc (.cells #[.int .i64 stop] 3)).alloc (.cells #[.bool false] 4)).alloc (.cells #[.int .i64 0] 3)
  have e1 := ((Boxed.new (w.alloc (.cells #[.slice A xs.length c] 22)) 3 (.int .i64 stop)).alloc (.cells #[.bool false] 4)).alloc (.cells #[.int .i64 0] 3)
  have e2 := (Boxed.new ((w.alloc (.cells #[.slice A xs.length c] 22)).alloc (.cells #[.int .i64 stop] 3)) 4 (.bool false)).alloc (.cells #[.int .i64 0] 3)
  have e3 := Boxed.new (((w.alloc (.cells #[.slice A xs.length c] 22)).alloc (.cells #[.int .i64 stop] 3)).alloc (.cells #[.bool false] 4)) 3 (.int .i64 0)
  simp only [World.size_alloc] at e1 e2 e3
  have hB0 : Below w.heap.size w ((((w.alloc (.cells #[.slice A xs.length c] 22)).alloc (.cells #[.int .i64 stop] 3)).alloc (.cells #[.bool false] 4)).alloc (.cells #[.int .i64 0] 3)) :=
    ((((Below.refl _ w).alloc (Nat.le_refl _) _).alloc (by simp) _).alloc (by simp; omega) _).alloc (by simp; omega) _
  have hsz : ((((w.alloc (.cells #[.slice A xs.length c] 22)).alloc (.cells #[.int .i64 stop] 3)).alloc (.cells #[.bool false] 4)).alloc (.cells #[.int .i64 0] 3)).heap.size = w.heap.size + 1 + 1 + 1 + 1 := by simp
  obtain ⟨W0, hW0⟩ : ∃ W0, (((w.alloc (.cells #[.slice A xs.length c] 22)).alloc (.cells #[.int .i64 stop] 3)).alloc (.cells #[.bool false] 4)).alloc (.cells #[.int .i64 0] 3) = W0 := ⟨_, rfl⟩
  rw [hW0] at e0 e1 e2 e3 hB0 hsz ⊢
  clear hW0
  refine rangeUp (n := 9) (gf := 15) (lb := #[.pointer (some ⟨Bt, 0, none⟩)]) rfl (enters_of Try.func15 (by kernel_rfl) rfl)
    (all_up k a0 xs h Bt W0 (by omega) ((hB0.cell (p := ⟨Bt, 0, none⟩) hBt).trans hc)) (Below.refl _ _) (fun _ => rfl)
    (fun pre W => ((Boxed W w.heap.size 22 (.slice A xs.length c) ∧ Boxed W (w.heap.size + 1) 3 (.int .i64 stop) ∧ Boxed W (w.heap.size + 1 + 1) 4 (.bool false) ∧ Boxed W (w.heap.size + 1 + 1 + 1) 3 (.int .i64 (pre.length : Int))) ∧ pre <+: xs) ∧ Below w.heap.size w W)
    (fun c' pre W => ((c' = .ret ∧ Boxed W (w.heap.size + 1 + 1) 4 (.bool true)) ∨ ¬ pre <+: xs) ∧ Below w.heap.size w W)
    (OwnFrom.and (OwnFrom.and (OwnFrom.and (Own.from (boxed_own _ _ _) _) (OwnFrom.and (Own.from (boxed_own _ _ _) _) (OwnFrom.and (Own.from (boxed_own _ _ _) _) (Own.from (boxed_own _ _ (fun pre : List Tk => .int .i64 (pre.length : Int))) _)))) (ownFrom_pure _ _)) (ownFrom_below (Nat.le_refl _) (by omega)))
    (fun c' => OwnFrom.and (fun s X Y row hs hg hr => hs.imp (fun hs => ⟨hs.1, (boxed_own _ 4 (fun _ : List Tk => .bool true)) s X Y row hs.2 hg (fun r e => (hr r e).2)⟩) id) (ownFrom_below (Nat.le_refl _) (by omega)))
    ⟨⟨⟨e0, e1, e2, e3⟩, List.nil_prefix⟩, hB0⟩
    (fun x a' W => ∃ Bx, w.heap.size + 1 + 1 + 1 < Bx ∧ W.heap[Bx]? = some (.cells #[.int .i64 x.f0, .string x.f1, .int .i64 x.f2] 29 (0, 0)) ∧ a' = { tmps :=
      #[.func (.func 15) #[] #[.pointer (some ⟨Bt, 0, none⟩)], .slice A xs.length c, .int .i64 stop, undef, .pointer (some ⟨w.heap.size, 0, none⟩), .pointer (some ⟨w.heap.size + 1, 0, none⟩), .pointer (some ⟨w.heap.size + 1 + 1, 0, none⟩), .pointer (some ⟨w.heap.size + 1 + 1 + 1, 0, none⟩), .pointer (some ⟨Bx, 0, none⟩),
        .func (.func 15) #[] #[.pointer (some ⟨Bt, 0, none⟩)], tkV x, undef, undef, undef, undef, undef, undef, undef, undef, undef, undef, undef, undef, undef, undef, undef, undef, undef, undef, undef, undef, undef], defers := [] })
    (fun x a' _ X Y row hs hg hr => by
      obtain ⟨Bx, h0, h1, h2⟩ := hs
      exact ⟨Bx, h0, (grownBy_keeps_cells hg (fun r e => (hr r e).2) h1 rfl).trans h1, h2⟩)
    ?assign ?body ?done ?stop
  case assign =>
    rintro l pre x W K ⟨⟨⟨b0, b1, b2, b3⟩, hp⟩, hB⟩ hK
    simp only [tkV]
    gi_wp2
    exact hK _ _ (KeepsUp.alloc _ _ _) ⟨⟨⟨b0.alloc _, b1.alloc _, b2.alloc _, b3.alloc _⟩, hp⟩, hB.alloc hB.size _⟩ ⟨W.heap.size, b3.lt, World.alloc_heap_new W _, rfl⟩
  case body =>
    rintro l pre x a' W hl2 ⟨⟨⟨b0, b1, b2, b3⟩, hp⟩, hB⟩ ⟨Bx, hBx, hbx, rfl⟩ hlt
    have hC := Kd.C_below hr hB
    obtain ⟨ad, rfl, hx0, hx1, hx2⟩ := at_T29 hC (pre.length : Int) (by omega) (by omega)
    simp only [Int.toNat_natCast] at hx0 hx1 hx2
    have hpx := snoc_prefix hp hlt x
    obtain ⟨y, hy⟩ : ∃ y, rd_T29 xs (pre.length : Int) = y := ⟨_, rfl⟩
    rw [hy] at hx0 hx1 hx2 hpx
    have d0 := b0.cell
    have d1 := b1.cell
    have d2 := b2.cell
    have d3 := b3.cell
    have f2 := b2.frozen
    have f3 := b3.frozen
    have t0 : W.cell? ⟨Bx, 0, none⟩ = some (.int .i64 x.f0) := by simp [World.cell?, hbx]
    have t1 : W.cell? ⟨Bx, 1, none⟩ = some (.string x.f1) := by simp [World.cell?, hbx]
    have t2 : W.cell? ⟨Bx, 2, none⟩ = some (.int .i64 x.f2) := by simp [World.cell?, hbx]
    have c1 : decide ((xs.length : Int) ≤ (pre.length : Int)) = false := decide_eq_false (by omega)
    have c2 : decide ((pre.length : Int) < (xs.length : Int)) = true := decide_eq_true (by omega)
    have c3 : decide ((0 : Int) ≤ (pre.length : Int)) = true := decide_eq_true (by omega)
    have c4 : decide (xs.length ≤ pre.length) = false := decide_eq_false (by omega)
    have c5 : decide (pre.length < xs.length) = true := decide_eq_true (by omega)
    have hwk := w64_up pre.length (Nat.lt_of_lt_of_le hlt hr.2.1)
    have hKd : ∀ m, KeepsUp W0.heap.size W (W.drewN m) := fun m => KeepsUp.drewN _ _ _
    have hBd : ∀ m, Below w.heap.size w (W.drewN m) := fun m => pw_below_drewN hB m
    have l2 : w.heap.size + 1 + 1 < W0.heap.size := by omega
    have l3 : w.heap.size + 1 + 1 + 1 < W0.heap.size := by omega
    have g2 : w.heap.size ≤ w.heap.size + 1 + 1 := by omega
    have g3 : w.heap.size ≤ w.heap.size + 1 + 1 + 1 := by omega
    by_cases hE : (x.f0 == y.f0 && (x.f1.toList == y.f1.toList && (x.f2 == y.f2))) = true
    · have hxy : pre ++ [x] <+: xs := by
        simp only [Bool.and_eq_true, beq_iff_eq] at hE
        exact hpx.mpr (tk_ext hE.1 (ba_ext hE.2.1) hE.2.2)
      clear hpx
      have hxy' := Aside0.mk hxy
      clear hxy
      have hb3 : ∀ m, Boxed ((W.drewN m).setCell ⟨w.heap.size + 1 + 1 + 1, 0, none⟩ (.int .i64 ((pre.length : Int) + 1))) (w.heap.size + 1 + 1 + 1) 3 (.int .i64 (((pre ++ [x]).length : Nat) : Int)) := fun m => by
        rw [List.length_append]
        exact Boxed.set _ (show Boxed (W.drewN m) _ _ _ from b3)
      cases hs : ((pre.length : Int) + 1 == stop)
      · simp only [tkV]
        gi_wp2
        refine region_quiet (by kernel_rfl) (by kernel_rfl) (by kernel_rfl) ?_
        repeat (gi_big_quiet_step (fail))
        refine wpQuietIn_nil ?_
        intro _ hw'
        obtain ⟨nq, hw''⟩ := hw'
        subst hw''
        gi_wp2
        exact ⟨(hKd nq).trans (KeepsUp.setCell _ _ l3), ⟨⟨Boxed.other (show Boxed (W.drewN nq) _ _ _ from b0) (by omega) _, Boxed.other (show Boxed (W.drewN nq) _ _ _ from b1) (by omega) _, Boxed.other (show Boxed (W.drewN nq) _ _ _ from b2) (by omega) _, hb3 nq⟩, hxy'.out⟩, (hBd nq).setCell (p := ⟨w.heap.size + 1 + 1 + 1, 0, none⟩) g3 _⟩
      · simp only [tkV]
        gi_wp2
        refine region_quiet (by kernel_rfl) (by kernel_rfl) (by kernel_rfl) ?_
        repeat (gi_big_quiet_step (fail))
        refine wpQuietIn_nil ?_
        intro _ hw'
        obtain ⟨nq, hw''⟩ := hw'
        subst hw''
        gi_wp2
        exact ⟨((hKd nq).trans (KeepsUp.setCell _ _ l3)).trans (KeepsUp.setCell _ _ l2), .inl ⟨rfl, Boxed.set _ (Boxed.other (show Boxed (W.drewN nq) _ _ _ from b2) (by omega) _)⟩, ((hBd nq).setCell (p := ⟨w.heap.size + 1 + 1 + 1, 0, none⟩) g3 _).setCell (p := ⟨w.heap.size + 1 + 1, 0, none⟩) g2 _⟩
    · have hE' : (x.f0 == y.f0 && (x.f1.toList == y.f1.toList && (x.f2 == y.f2))) = false := by simpa using hE
      have hxy : ¬ pre ++ [x] <+: xs := fun hq => by
        rw [hpx] at hq
        subst hq
        simp at hE
      clear hE hpx
      have hxy' := Aside0.mk hxy
      clear hxy
      simp only [tkV]
      gi_wp2
      refine region_quiet (by kernel_rfl) (by kernel_rfl) (by kernel_rfl) ?_
      repeat (gi_big_quiet_step (fail))
      refine wpQuietIn_nil ?_
      intro _ hw'
      obtain ⟨nq, hw''⟩ := hw'
      subst hw''
      gi_wp2
      exact ⟨(hKd nq).trans (KeepsUp.setCell _ _ l2), .inr hxy'.out, (hBd nq).setCell (p := ⟨w.heap.size + 1 + 1, 0, none⟩) g2 _⟩
  case done =>
    rintro D W hD ⟨⟨⟨b0, b1, b2, b3⟩, hp⟩, hB⟩ hK
    have d0 := b0.cell
    have d2 := b2.cell
    have d3 := b3.cell
    have f2 := b2.frozen
    gi_wp2
    have hK' := (KeepsOthers.setCell W ⟨w.heap.size + 1 + 1, 0, none⟩ (.bool true)).same D _ hK rfl
    refine ⟨by simp, .inl ⟨_, _, rfl, run_takeDeferred hK', ?_⟩⟩
    have hc5 := cell_kept (Boxed.set (.bool true) b2).cell (grownBy_putObj' _ D (.deferred none)) (fun r e => by cases e; exact ⟨_, hK', rfl⟩)
    refine ⟨.bool true, ?_, rfl, (hB.setCell (p := ⟨w.heap.size + 1 + 1, 0, none⟩) (show w.heap.size ≤ w.heap.size + 1 + 1 by omega) _).trans (belowK_b (w := w) (Nat.le_refl _) _ D _ _ (by omega) hK' rfl rfl)⟩
    simp [results, Try.f11, go_sem, hc5]
  case stop =>
    rintro D c' pre W hD hpre ⟨⟨rfl, b2⟩ | hn, hB⟩ hK
    · gi_wp2
      refine ⟨by simp, .inl ⟨_, _, rfl, run_takeDeferred hK, ?_⟩⟩
      have hc5 := cell_kept b2.cell (grownBy_putObj' _ D (.deferred none)) (fun r e => by cases e; exact ⟨_, hK, rfl⟩)
      refine ⟨.bool true, ?_, rfl, hB.trans (belowK_b (w := w) (Nat.le_refl _) _ D _ _ (by omega) hK rfl rfl)⟩
      simp [results, Try.f11, go_sem, hc5]
    · exact absurd hpre hn
end Go.Proofs.Ytmpamcfeijnafaa.Iter
