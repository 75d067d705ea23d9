/- codec's Writer: Int of a small number, Flag, Out, NewWriter. -/
import Derived.Test.YtmeopdjdjmjngaaGreatDoorCodW11
set_option linter.unusedVariables false
set_option linter.unusedSimpArgs false
namespace Go.Proofs.YtmeopdjdjmjngaaGreatDoor.Cod
open Go.RowKit Go.Lib Go.Proofs.YtmeopdjdjmjngaaGreatDoorW.PrintWords Go.Proofs.YtmeopdjdjmjngaaGreatDoorW.PrintLast
set_option maxHeartbeats 4000000 in
theorem size_small (n : Int) (h0 : 0 ≤ n) (h1 : n < 120) (W : World) : Calls Tryz.prog 150 #[.int .i64 n] W fun e w' => e = .returned (.int .i64 1) ∧ w' = W := by
  have hn : ¬ (n < 0) := by omega
  go_enter Tryz.func150, Tryz.ntmps150
  go_wp2
  go_ret
  exact ⟨rfl, rfl⟩
set_option maxHeartbeats 4000000 in
set_option maxRecDepth 100000 in
theorem put_small (n : Int) (h0 : 0 ≤ n) (h1 : n < 120) (W : World) :
    Calls Tryz.prog 111 #[.slice none 0 0, .int .i64 n] W fun e w' => ∃ v', e = .returned v' ∧ w'.ownsRow W.heap.size 5 1 v' 1 (nums .u8 [128 + n]) ∧ Below W.heap.size W w' := by
  obtain ⟨i0, hi0, hz0, hzs, hzb⟩ := info_parts i5
  have hn : ¬ (n < 0) := by omega
  have SZ := Aside0.mk (size_small n h0 h1 W)
  go_enter Tryz.func111, Tryz.ntmps111
  go_wp2_with (first
    | (go_at_call 150; refine SZ.out.mono ?_; rintro e w1 ⟨rfl, hw⟩; replace hw := hw.symm; subst hw)
    | (at_builtin; refine wpList_append_own _ rfl _ _ 62 rfl W.heap.size 5 i0 (.int .u8 0) 1 1 u62 hi0 hz0 hzs hzb rfl (by decide) _ _ _ rfl (own_nil _ _ _ _) ⟨W.heap.size, 0, none⟩ 1 1 [.int .u8 (128 + n)] rfl ?qc1 ?qc2 ?qc3 ?qc4 ?qc5 ?qc6 ?_))
  case qc1 => rfl
  case qc2 =>
    intro j u hj
    rw [Addr.add_lit, Nat.zero_add]
    have hn := heap_alloc_new W (.cells #[.int .u8 (128 + n)] 5 (0, 0))
    match j, hj with
    | 0, hj => rw [← Option.some.inj hj]; unfold World.cell?; rw [hn]; rfl
    | j + 1, hj => simp at hj
  case qc3 => intro u hu; simp at hu; rw [hu]; rfl
  case qc4 => unfold maxLen; omega
  case qc5 => omega
  case qc6 => simp
  intro v1 w1 hown hgrow _
  have H1 : Aside0 (w1.ownsRow W.heap.size 5 1 v1 1 (nums .u8 [128 + n])) := ⟨by simpa [nums] using hown⟩
  have H2 := Aside0.mk (((Below.refl W.heap.size W).alloc (Nat.le_refl _) (.cells #[.int .u8 (128 + n)] 5 (0, 0))).grown hgrow (by simp) (by intro k hk; simp [Value.ownBlock] at hk))
  clear hown hgrow
  go_wp2
  go_ret
  exact ⟨v1, rfl, H1.out, H2.out⟩
set_option maxHeartbeats 4000000 in
set_option maxRecDepth 100000 in
theorem int_calls {W : World} {base g : Nat} {xs : List Int} (n : Int) (h0 : 0 ≤ n) (h1 : n < 120) (hw : Wr W base g xs) (hb : base ≤ W.heap.size) (hfit : xs.length + 1 ≤ 1048576) :
    Calls Tryz.prog 68 #[.pointer (some ⟨g, 0, none⟩), .int .i64 n] W fun e w' => e = .returned (.int .i64 0) ∧ Wr w' base g (xs ++ [128 + n]) ∧ Below base W w' ∧ Keeps W w' := by
  have CP := Aside0.mk (put_small n h0 h1 W)
  have HW := Aside0.mk hw
  clear hw
  go_enter Tryz.func68, Tryz.ntmps68
  go_wp2_with (first
    | (go_at_call 111; refine CP.out.mono ?_; rintro e w1 ⟨v1, rfl, ho1, hb1⟩; obtain ⟨A1, c1, rfl, _, hC⟩ := own_bytes (xs := [128 + n]) ho1; have CM := Aside0.mk (more_calls (A := A1) (c := c1) (HW.out.below hb1) hC (by simp) (by simpa using hfit)); have HB1 := Aside0.mk (hb1.mono hb); have HP1 := Aside0.mk (Keeps.of_below hb1); clear ho1 hb1 hC)
    | (go_at_call 110; refine CM.out.mono ?_; rintro e w2 ⟨rfl, hw2, hb2, hp2⟩; have HW2 := Aside0.mk hw2; have HB2 := Aside0.mk (HB1.out.trans hb2); have HP2 := Aside0.mk (HP1.out.trans hp2); clear hw2 hb2 hp2))
  go_ret
  exact ⟨rfl, HW2.out, HB2.out, HP2.out⟩
set_option maxHeartbeats 4000000 in
set_option maxRecDepth 100000 in
theorem flag_calls {W : World} {base g : Nat} {xs : List Int} (yes : Bool) (hw : Wr W base g xs) (hb : base ≤ W.heap.size) (hfit : xs.length + 1 ≤ 1048576) :
    Calls Tryz.prog 69 #[.pointer (some ⟨g, 0, none⟩), .bool yes] W fun e w' => e = .returned (.int .i64 0) ∧ Wr w' base g (xs ++ [if yes then 129 else 128]) ∧ Below base W w' ∧ Keeps W w' := by
  cases yes with
  | false =>
    have CI := Aside0.mk (int_calls 0 (by decide) (by decide) hw hb hfit)
    clear hw
    go_enter Tryz.func69, Tryz.ntmps69
    go_wp2_with (go_at_call 68; refine CI.out.mono ?_; rintro e w1 ⟨rfl, h1, h2, h3⟩; have H1 := Aside0.mk h1; have H2 := Aside0.mk h2; have H3 := Aside0.mk h3; clear h1 h2 h3)
    go_ret
    exact ⟨rfl, H1.out, H2.out, H3.out⟩
  | true =>
    have CI := Aside0.mk (int_calls 1 (by decide) (by decide) hw hb hfit)
    clear hw
    go_enter Tryz.func69, Tryz.ntmps69
    go_wp2_with (go_at_call 68; refine CI.out.mono ?_; rintro e w1 ⟨rfl, h1, h2, h3⟩; have H1 := Aside0.mk h1; have H2 := Aside0.mk h2; have H3 := Aside0.mk h3; clear h1 h2 h3)
    go_ret
    exact ⟨rfl, H1.out, H2.out, H3.out⟩
set_option maxHeartbeats 4000000 in
set_option maxRecDepth 100000 in
theorem newWriter_calls (W : World) : Calls Tryz.prog 66 #[] W fun e w' => ∃ g, e = .returned (.pointer (some ⟨g, 0, none⟩)) ∧ Wr w' W.heap.size g [] ∧ Below W.heap.size W w' := by
  go_enter Tryz.func66, Tryz.ntmps66
  go_wp2
  go_ret
  exact ⟨W.heap.size, rfl, ⟨Nat.le_refl _, by simp, .slice none 0 0, heap_alloc_new W _, own_nil _ _ _ _, by simp [Value.ownBlock]⟩, below_alloc (Below.refl _ _) _⟩
set_option maxHeartbeats 4000000 in
set_option maxRecDepth 100000 in
theorem clone_calls (ad : Addr) (c : Nat) (xs : List Int) (W : World) (hx : BytesAt W ad xs) (hbig : xs.length ≤ 140737488355328) :
    Calls Tryz.prog 112 #[.slice (some ad) xs.length c] W fun e w' => ∃ v', e = .returned v' ∧ w'.ownsRow W.heap.size 5 1 v' xs.length (nums .u8 xs) ∧ Below W.heap.size W w' := by
  have mixed : Tryz.prog.follows Departure.mixedOrders = true := by kernel_rfl
  obtain ⟨i0, hi0, hz0, hzs, hzb⟩ := info_parts i5
  have q22 : ∀ (w : World) (a : Option Addr) (n c n' c' : Nat), (binOp .eql 62 (.slice a n c) (.slice none n' c')).run Tryz.prog w = .ok (.bool a.isNone) w := fun w a n c n' c' => Lib.run_eql_slice_nil w _ _ a n c n' c' u62
  have HT : Aside (∀ j u, (nums .u8 xs)[j]? = some u → (W.alloc (.cells #[] 5)).cell? (ad.add j) = some u) := fun j u hj => Lib.cell?_alloc_some _ (at_cells hx j u hj)
  clear hx
  go_enter Tryz.func112, Tryz.ntmps112
  go_wp2_with (at_builtin; refine wpList_append_own _ rfl _ _ 62 rfl W.heap.size 5 i0 (.int .u8 0) 1 1 u62 hi0 hz0 hzs hzb rfl (by decide) _ _ _ rfl (World.ownsRow_made W #[] 0 (Nat.le_refl _) (Nat.zero_le _) (by simp)) ad xs.length c (nums .u8 xs) rfl ?qc1 ?qc2 ?qc3 ?qc4 ?qc5 ?qc6 ?_)
  case qc1 => rw [nums_len]; omega
  case qc2 => exact HT.out
  case qc3 => exact nums_one xs
  case qc4 => rw [Nat.zero_add]; unfold maxLen; omega
  case qc5 => omega
  case qc6 => simp
  intro v' w1 hown hgrow _
  go_wp2
  go_ret
  exact ⟨v', rfl, by simpa using hown, ((Below.refl _ W).alloc (Nat.le_refl _) _).grown hgrow (by simp) (by intro k hk; simp [Value.ownBlock] at hk; omega)⟩
theorem bytesAt_of {W : World} {A : Option Addr} {xs : List Int} (h : Kd.C (Kd.int .u8) W A xs.length xs) (hp : 0 < xs.length) : ∃ ad, A = some ad ∧ BytesAt W ad xs := by
  obtain ⟨ad, e, _⟩ := Kd.at_int h 0 (by omega) (by omega)
  refine ⟨ad, e, fun j hj => ?_⟩
  obtain ⟨ad', e', hc⟩ := Kd.at_int h (j : Int) (by omega) (by omega)
  obtain rfl := Option.some.inj (e.symm.trans e')
  rw [show ((j : Int).toNat) = j from rfl] at hc
  exact hc
set_option maxHeartbeats 4000000 in
set_option maxRecDepth 100000 in
theorem out_calls {W : World} {base g : Nat} {xs : List Int} (hw : Wr W base g xs) (hp : 0 < xs.length) (hbig : xs.length ≤ 1048576) :
    Calls Tryz.prog 70 #[.pointer (some ⟨g, 0, none⟩)] W fun e w' => ∃ v', e = .returned v' ∧ w'.ownsRow W.heap.size 5 1 v' xs.length (nums .u8 xs) ∧ Below W.heap.size W w' := by
  obtain ⟨h1, h2, v, h3, h4, h5⟩ := hw
  obtain ⟨A, c, rfl, _, hC⟩ := own_bytes h4
  obtain ⟨ad, rfl, hx⟩ := bytesAt_of hC hp
  obtain ⟨b0, b1, bf⟩ := w_facts h3
  have CC := Aside0.mk (clone_calls ad c xs W hx (by omega))
  have hu141 := Tryz.underlying141
  clear hx hC h3 h4
  go_enter Tryz.func70, Tryz.ntmps70
  go_wp2_with (go_at_call 112; refine CC.out.mono ?_; rintro e w1 ⟨v1, rfl, g1, g2⟩; have G1 := Aside0.mk g1; have G2 := Aside0.mk g2; clear g1 g2)
  go_ret
  exact ⟨v1, rfl, G1.out, G2.out⟩
end Go.Proofs.YtmeopdjdjmjngaaGreatDoor.Cod
