/- codec's Reader: what it holds; NewReader, take. -/
import Derived.Test.YtmeopdjdjmjngaaGreatDoorCodG11
set_option linter.unusedVariables false
set_option linter.unusedSimpArgs false
namespace Go.Proofs.YtmeopdjdjmjngaaGreatDoor.Cod
open Go.RowKit Go.Lib Go.Proofs.YtmeopdjdjmjngaaGreatDoorW.PrintWords Go.Proofs.YtmeopdjdjmjngaaGreatDoorW.PrintLast
/-- all blocks but those of S are as they were -/
structure Only (S : Nat → Prop) (W w' : World) : Prop where
  os : w'.os = W.os
  tape : w'.tape = W.tape
  output : w'.output = W.output
  size : W.heap.size ≤ w'.heap.size
  block : ∀ k, k < W.heap.size → ¬ S k → w'.heap[k]? = W.heap[k]?
theorem Only.of_below {S : Nat → Prop} {W w' : World} (h : Below W.heap.size W w') : Only S W w' := ⟨h.os, h.tape, h.output, h.size, fun k hk _ => h.block k hk⟩
theorem Only.trans {S : Nat → Prop} {a b c : World} (h : Only S a b) (k : Only S b c) : Only S a c :=
  ⟨k.os.trans h.os, k.tape.trans h.tape, k.output.trans h.output, Nat.le_trans h.size k.size, fun j hj hs => (k.block j (Nat.lt_of_lt_of_le hj h.size) hs).trans (h.block j hj hs)⟩
theorem Only.wide {S T : Nat → Prop} {a b : World} (h : Only S a b) (hs : ∀ k, k < a.heap.size → S k → T k) : Only T a b :=
  ⟨h.os, h.tape, h.output, h.size, fun j hj ht => h.block j hj (fun q => ht (hs j hj q))⟩
theorem Only.setCell {S : Nat → Prop} {a b : World} (h : Only S a b) (g o : Nat) (hg : S g) (v : Value) : Only S a (b.setCell ⟨g, o, none⟩ v) :=
  ⟨h.os, h.tape, h.output, by have := h.size; simpa [World.setCell] using this, fun j hj hs => (Below.heap_setCell b ⟨g, o, none⟩ v j (fun q => hs (by rw [show j = g from q]; exact hg))).trans (h.block j hj hs)⟩
theorem Only.below {S : Nat → Prop} {a b : World} {base : Nat} (h : Only S a b) (hs : ∀ k, S k → base ≤ k) (hb : base ≤ a.heap.size) : Below base a b :=
  ⟨h.os, h.tape, h.output, h.size, fun j hj => h.block j (Nat.lt_of_lt_of_le hj hb) (fun q => absurd (hs j q) (by omega))⟩
def RowAt (W : World) (A : Option Addr) (ys : List Int) : Prop := ∀ i, i < ys.length → ∃ ad, A = some ad ∧ W.cell? (ad.add i) = some (.int .u8 (ys.getD i 0))
theorem add_add' (ad : Addr) (k i : Nat) : (ad.add k).add i = ad.add (k + i) := by
  obtain ⟨b, o, sp⟩ := ad
  unfold Addr.add
  by_cases h : k = 0
  · subst h; simp
  · by_cases h2 : i = 0
    · subst h2; simp
    · rw [if_neg h, if_neg h2, if_neg (by omega)]
      simp only [Addr.mk.injEq, true_and, and_true]
      omega
theorem RowAt.bytes {W : World} {ad : Addr} {ys : List Int} (h : RowAt W (some ad) ys) : BytesAt W ad ys := fun i hi => by
  obtain ⟨ad', e, hc⟩ := h i hi
  obtain rfl := Option.some.inj e
  exact hc
theorem BytesAt.row {W : World} {ad : Addr} {ys : List Int} (h : BytesAt W ad ys) : RowAt W (some ad) ys := fun i hi => ⟨ad, rfl, h i hi⟩
theorem RowAt.below {W W1 : World} {A : Option Addr} {ys : List Int} (h : RowAt W A ys) (hb : Below W.heap.size W W1) : RowAt W1 A ys := fun i hi => by
  obtain ⟨ad, e, hc⟩ := h i hi
  exact ⟨ad, e, pw_cell_below hb hc⟩
theorem RowAt.none {W : World} {ys : List Int} (h : RowAt W none ys) : ys = [] := by
  cases ys with
  | nil => rfl
  | cons x r => obtain ⟨ad, e, _⟩ := h 0 (by simp); cases e
theorem RowAt.drop {W : World} {A : Option Addr} {ys : List Int} (h : RowAt W A ys) (k c : Nat) (hc : ys.length ≤ c) : RowAt W (if c = k then A else A.map (·.add (k * 1))) (ys.drop k) := fun i hi => by
  rw [List.length_drop] at hi
  obtain ⟨ad, e, hx⟩ := h (k + i) (by omega)
  rw [if_neg (by omega), e]
  refine ⟨ad.add (k * 1), rfl, ?_⟩
  rw [Nat.mul_one, add_add', hx, List.getD_eq_getElem?_getD, List.getD_eq_getElem?_getD, List.getElem?_drop]
theorem RdOk.drop {ys : List Int} (h : RdOk ys) (k : Nat) : RdOk (ys.drop k) := fun i hi => by
  rw [List.length_drop] at hi
  have := h (k + i) (by omega)
  rw [List.getD_eq_getElem?_getD] at this ⊢
  rw [List.getElem?_drop]
  exact this
/-- what a Reader holds: ys stand behind it; its blocks lie below b -/
def Rd (W : World) (b g : Nat) (ys : List Int) : Prop := RdOk ys ∧ ys.length ≤ 140737488355328 ∧ (g < b ∧ b ≤ W.heap.size) ∧ ∃ A c, W.heap[g]? = some (.cells #[.bool true, .slice A ys.length c] 145 (0, 0)) ∧ ys.length ≤ c ∧ RowAt W A ys ∧ (A = none → c = 0) ∧ ∀ ad, A = some ad → ad.block < b ∧ ad.block ≠ g
theorem cell_heap {a b : World} {p : Addr} {v : Value} (h : a.cell? p = some v) (e : b.heap[p.block]? = a.heap[p.block]?) : b.cell? p = some v := by
  unfold World.cell? at h ⊢
  rw [e]
  exact h
theorem add_block (ad : Addr) (i : Nat) : (ad.add i).block = ad.block := by
  unfold Addr.add
  split <;> rfl
theorem cell_lt {a : World} {p : Addr} {v : Value} (h : a.cell? p = some v) : p.block < a.heap.size := World.block_lt_of_cell? a _ h
theorem RowAt.only {S : Nat → Prop} {W W1 : World} {A : Option Addr} {ys : List Int} (h : RowAt W A ys) (ho : Only S W W1) (hs : ∀ ad, A = some ad → ad.block < W.heap.size → ¬ S ad.block) : RowAt W1 A ys := fun i hi => by
  obtain ⟨ad, e, hc⟩ := h i hi
  have hl := cell_lt hc
  rw [add_block] at hl
  exact ⟨ad, e, cell_heap hc (by rw [add_block]; exact ho.block _ hl (hs ad e hl))⟩
theorem Rd.only {S : Nat → Prop} {W W1 : World} {b g : Nat} {ys : List Int} (h : Rd W b g ys) (ho : Only S W W1) (hs : ∀ k, k < b → ¬ S k) : Rd W1 b g ys := by
  obtain ⟨h1, h2, ⟨hg, hb⟩, A, c, h3, h4, h5, h6, h7⟩ := h
  exact ⟨h1, h2, ⟨hg, Nat.le_trans hb ho.size⟩, A, c, (ho.block g (blk_lt h3) (hs g hg)).trans h3, h4, h5.only ho (fun ad e _ => hs _ (h7 ad e).1), h6, h7⟩
theorem Rd.below {W W1 : World} {b g : Nat} {ys : List Int} (h : Rd W b g ys) (hb : Below W.heap.size W W1) : Rd W1 b g ys := h.only (S := fun _ => False) (Only.of_below hb) (fun _ _ q => q)
theorem Rd.lt {W : World} {b g : Nat} {ys : List Int} (h : Rd W b g ys) : g < b ∧ b ≤ W.heap.size := h.2.2.1
theorem Rd.setk {W w1 : World} {b g gn kn c : Nat} {ad : Addr} {ys : List Int} (hR : Rd W b g ys) (h3 : W.heap[g]? = some (.cells #[.bool true, .slice (some ad) ys.length c] 145 (0, 0))) (ho : Only (fun j => j = gn) W w1) (hgn : b ≤ gn) (hk : kn ≤ ys.length) :
    Rd (w1.setCell ⟨g, 1, none⟩ (.slice (if c = kn then some ad else some (ad.add kn)) (ys.length - kn) (c - kn))) b g (ys.drop kn) := by
  obtain ⟨r1, r2, ⟨hg, hb⟩, A, c', q3, r4, r5, r6, r7⟩ := hR
  rw [h3] at q3
  obtain ⟨rfl, rfl⟩ : some ad = A ∧ c = c' := by
    injection q3 with q3
    injection q3 with q3
    have := congrArg (fun x : Array Value => x[1]?) q3
    simp at this
    exact this
  have hw1 : w1.heap[g]? = some (.cells #[.bool true, .slice (some ad) ys.length c] 145 (0, 0)) := (ho.block g (blk_lt h3) (by omega)).trans h3
  have hO : Only (fun j => j = g ∨ j = gn) W (w1.setCell ⟨g, 1, none⟩ (.slice (if c = kn then some ad else some (ad.add kn)) (ys.length - kn) (c - kn))) := (ho.wide (fun _ _ q => .inr q)).setCell g 1 (.inl rfl) _
  refine ⟨r1.drop kn, by rw [List.length_drop]; omega, ⟨hg, Nat.le_trans hb hO.size⟩, _, _, by rw [List.length_drop]; exact blk_set hw1 1 _, by rw [List.length_drop]; omega, ?_, ?_, ?_⟩
  · have h := r5.drop kn c r4
    rw [Option.map_some, Nat.mul_one] at h
    refine h.only hO (fun ad' e _ q => ?_)
    have hb' : ad'.block = ad.block := by
      split at e
      · rw [← Option.some.inj e]
      · rw [← Option.some.inj e, add_block]
    rw [hb'] at q
    have := r7 ad rfl
    omega
  · intro e
    split at e <;> cases e
  · intro ad' e
    have hb' : ad'.block = ad.block := by
      split at e
      · rw [← Option.some.inj e]
      · rw [← Option.some.inj e, add_block]
    rw [hb']
    exact r7 ad rfl
theorem rowAt_of {W : World} {A : Option Addr} {xs : List Int} (h : Kd.C (Kd.int .u8) W A xs.length xs) : RowAt W A xs := fun i hi => by
  obtain ⟨ad, e, hc⟩ := Kd.at_int h (i : Int) (by omega) (by omega)
  rw [show ((i : Int).toNat) = i from rfl] at hc
  exact ⟨ad, e, hc⟩
theorem own_block {w : World} {base : Nat} {A : Option Addr} {n c : Nat} {cs : List Value} (h : w.ownsRow base 5 1 (.slice A n c) n cs) : (A = none → c = 0) ∧ ∀ ad, A = some ad → base ≤ ad.block ∧ ad.block < w.heap.size := by
  rcases h.2 with ⟨q, q0⟩ | ⟨g, cap, cur, q, h1, h2, _⟩
  · injection q with q1 q2 q3
    subst q1
    exact ⟨fun _ => q3, fun ad e => by cases e⟩
  · injection q with q1 q2 q3
    subst q1
    refine ⟨fun e => (by cases e), fun ad e => ?_⟩
    obtain rfl := Option.some.inj e
    exact ⟨h1, blk_lt h2⟩
set_option maxHeartbeats 4000000 in
set_option maxRecDepth 100000 in
theorem clone_nil (n c : Nat) (W : World) :
    Calls Tryz.prog 112 #[.slice none n c] W fun e w' => e = .returned (.slice none 0 0) ∧ w' = W := by
  have mixed : Tryz.prog.follows Departure.mixedOrders = true := by kernel_rfl
  have q22 : ∀ (w : World) (a : Option Addr) (n c n' c' : Nat), (binOp .eql 62 (.slice a n c) (.slice none n' c')).run Tryz.prog w = .ok (.bool a.isNone) w := fun w a n c n' c' => Lib.run_eql_slice_nil w _ _ a n c n' c' u62
  go_enter Tryz.func112, Tryz.ntmps112
  go_wp2
  go_ret
  exact ⟨rfl, rfl⟩
set_option maxHeartbeats 4000000 in
set_option maxRecDepth 100000 in
theorem cloned (A : Option Addr) (c : Nat) (xs : List Int) (W : World) (hx : RowAt W A xs) (hbig : xs.length ≤ 140737488355328) :
    Calls Tryz.prog 112 #[.slice A xs.length c] W fun e w' => ∃ A' c', e = .returned (.slice A' xs.length c') ∧ xs.length ≤ c' ∧ RowAt w' A' xs ∧ (A' = none → c' = 0) ∧ (∀ ad, A' = some ad → W.heap.size ≤ ad.block ∧ ad.block < w'.heap.size) ∧ Below W.heap.size W w' := by
  cases A with
  | none =>
    obtain rfl := hx.none
    refine (clone_nil 0 c W).mono ?_
    rintro e w1 ⟨rfl, rfl⟩
    exact ⟨none, 0, rfl, Nat.le_refl _, hx, fun _ => rfl, fun ad e => (by cases e), Below.refl _ _⟩
  | some ad =>
    refine (clone_calls ad c xs W hx.bytes hbig).mono ?_
    rintro e w1 ⟨v1, rfl, ho, hb⟩
    obtain ⟨A1, c1, rfl, hc1, hC⟩ := own_bytes ho
    have hob := own_block ho
    exact ⟨A1, c1, rfl, hc1, rowAt_of hC, hob.1, hob.2, hb⟩
set_option maxHeartbeats 4000000 in
set_option maxRecDepth 100000 in
theorem newReader_calls (A : Option Addr) (c : Nat) (ys : List Int) (W : World) (hx : RowAt W A ys) (hok : RdOk ys) (hl : ys.length ≤ 140737488355328) :
    Calls Tryz.prog 73 #[.slice A ys.length c] W fun e w' => ∃ g, e = .returned (.pointer (some ⟨g, 0, none⟩)) ∧ W.heap.size ≤ g ∧ Rd w' w'.heap.size g ys ∧ Below W.heap.size W w' := by
  have CL := Aside0.mk (fun (W1 : World) (hb : Below W.heap.size W W1) => cloned A c ys W1 (hx.below hb) hl)
  clear hx
  go_enter Tryz.func73, Tryz.ntmps73
  go_wp2_with (go_at_call 112; refine (CL.out _ (by first | exact Below.refl _ _ | exact below_alloc (Below.refl _ _) _)).mono ?_; rintro e w1 ⟨A1, c1, rfl, hc1, hr1, hn1, ho1, hb1⟩; have HC1 := Aside0.mk hc1; have HR1 := Aside0.mk hr1; have HN1 := Aside0.mk hn1; have HO1 := Aside0.mk ho1; have HB1 := Aside0.mk hb1; clear hc1 hr1 hn1 ho1 hb1)
  go_ret
  exact ⟨w1.heap.size, rfl, HB1.out.size, ⟨hok, hl, ⟨by simp, Nat.le_refl _⟩, A1, c1, heap_alloc_new w1 _, HC1.out, HR1.out.below (below_alloc (Below.refl _ _) _), HN1.out, fun ad e => by have := (HO1.out ad e).2; simp; omega⟩, below_alloc HB1.out _⟩
set_option maxHeartbeats 4000000 in
set_option maxRecDepth 100000 in
theorem take_calls (lit gn : Nat) (lb : Array Value) (eg : ∀ args w, (callFunc lit args).run Tryz.prog w = .ok (.enter lit args) w) {W : World} {b g : Nat} {ys : List Int} (hR : Rd W b g ys) (hgn : b ≤ gn) (Q : Int → Int → World → Prop)
    (hQ : ∀ k f w1 v, w1.heap[g]? = W.heap[g]? → Q k f w1 → Q k f (w1.setCell ⟨g, 1, none⟩ v))
    (hlit : ∀ (A : Option Addr) (c : Nat) (W1 : World), Below W.heap.size W W1 → W1.heap = W.heap → RowAt W A ys → ys.length ≤ c → (∀ ad, A = some ad → ad.block < b) → Calls Tryz.prog lit (#[.slice A ys.length c] ++ lb) W1 fun e w' => ∃ k f : Int, e = .returned (.tuple #[.int .i64 k, .int .i64 f]) ∧ Only (fun j => j = gn) W1 w' ∧ (f = 0 → 0 < k ∧ k ≤ (ys.length : Int)) ∧ Q k f w') :
    Calls Tryz.prog 116 #[.pointer (some ⟨g, 0, none⟩), .func (.func lit) #[] lb] W fun e w' => ∃ k f : Int, e = .returned (.int .i64 f) ∧ Only (fun j => j = g ∨ j = gn) W w' ∧ Q k f w' ∧ (f = 0 → 0 < k ∧ Rd w' b g (ys.drop k.toNat)) ∧ (f ≠ 0 → Rd w' b g ys) := by
  have HR := Aside0.mk hR
  obtain ⟨r1, r2, ⟨hg, hb⟩, A, c, r3, r4, r5, r6, r7⟩ := hR
  obtain ⟨b0, b1, bf⟩ := w_facts r3
  have HK := Aside0.mk r3
  have HL := Aside0.mk (fun (W1 : World) (hb : Below W.heap.size W W1) (he : W1.heap = W.heap) => hlit A c W1 hb he r5 r4 (fun ad e => (r7 ad e).1))
  have HQ := Aside0.mk hQ
  have hu145 := Tryz.underlying145
  have HRW := Aside0.mk r5
  clear r1 r3 r5 r6 r7 hQ hlit
  go_enter Tryz.func116, Tryz.ntmps116
  go_wp2_with (go_at_fn lit; refine (HL.out _ (by first | exact Below.refl _ _ | exact below_drew1 (Below.refl _ _)) (by rfl)).mono ?_; rintro e w1 ⟨k, f, rfl, ho, hk, hq⟩; have HO := Aside0.mk ho; have HKF := Aside0.mk hk; have HQ1 := Aside0.mk hq; have HK1 := Aside0.mk ((ho.block g (blk_lt HK.out) (by omega)).trans HK.out); obtain ⟨d0, d1, df⟩ := w_facts HK1.out; clear ho hk hq; by_cases hf : f = 0; (subst hf; obtain ⟨kn, rfl⟩ := Int.eq_ofNat_of_zero_le (show 0 ≤ k by have := HKF.out rfl; omega); have hk1 : 0 < kn := by { have := HKF.out rfl; omega }; have hk2 : kn ≤ ys.length := by { have := HKF.out rfl; omega }; have hk3 : kn ≤ c := by { omega }; obtain ⟨ad, e, _⟩ := HRW.out 0 (by omega); subst e))
  · go_ret
    have hs := HR.out.setk HK.out HO.out hgn hk2
    refine ⟨_, _, rfl, (HO.out.wide (fun _ _ q => .inr q)).setCell g 1 (.inl rfl) _, HQ.out _ _ _ _ (HK1.out.trans HK.out.symm) HQ1.out, fun _ => ⟨by omega, ?_⟩, fun q => absurd rfl q⟩
    have hcq : c = kn := by omega
    rw [if_pos hcq, hcq, Nat.sub_self] at hs
    exact hs
  · go_ret
    have hs := HR.out.setk HK.out HO.out hgn hk2
    refine ⟨_, _, rfl, (HO.out.wide (fun _ _ q => .inr q)).setCell g 1 (.inl rfl) _, HQ.out _ _ _ _ (HK1.out.trans HK.out.symm) HQ1.out, fun _ => ⟨by omega, ?_⟩, fun q => absurd rfl q⟩
    rw [if_neg (by omega)] at hs
    exact hs
  · go_ret
    exact ⟨_, _, rfl, HO.out.wide (fun _ _ q => .inr q), HQ1.out, fun q => absurd q hf, fun _ => HR.out.only HO.out (fun j hj q => by omega)⟩
set_option maxHeartbeats 4000000 in
set_option maxRecDepth 100000 in
theorem int_lit (A : Option Addr) (c gn : Nat) (ys : List Int) (W : World) (n0 : Int) (hA : RowAt W A ys) (hr : RdOk ys) (hlen : ys.length ≤ 140737488355328) (hc : ys.length ≤ c) (hg : W.heap[gn]? = some (.cells #[.int .i64 n0] 2 (0, 0))) :
    Calls Tryz.prog 117 #[.slice A ys.length c, .pointer (some ⟨gn, 0, none⟩)] W fun e w' => ∃ k f : Int, e = .returned (.tuple #[.int .i64 k, .int .i64 f]) ∧ Only (fun j => j = gn) W w' ∧ (f = 0 → 0 < k ∧ k ≤ (ys.length : Int)) ∧ ∃ n, w'.heap[gn]? = some (.cells #[.int .i64 n] 2 (0, 0)) ∧ ∀ x r, ys = x :: r → 128 ≤ x → x ≤ 247 → n = x - 128 ∧ k = 1 ∧ f = 0 := by
  have CG := Aside0.mk (get_calls A c ys W hA hr hlen hc)
  have HG := Aside0.mk hg
  have c0 : W.cell? ⟨gn, 0, none⟩ = some (.int .i64 n0) := by simp [World.cell?, hg]
  have cf : ∀ j, W.frozen? ⟨gn, j, none⟩ = false := fun j => by simp [World.frozen?, hg]
  clear hA hr hlen hc hg
  go_enter Tryz.func117, Tryz.ntmps117
  go_wp2_with (go_at_call 118; refine CG.out.mono ?_; rintro e w1 ⟨n, k, f, rfl, hb, hk, hv⟩; have HB := Aside0.mk hb; have HK := Aside0.mk hk; have HV := Aside0.mk hv; have HG1 := Aside0.mk ((hb.block gn (blk_lt HG.out)).trans HG.out); have d0 : w1.cell? ⟨gn, 0, none⟩ = some (.int .i64 n0) := (by simp [World.cell?, HG1.out]); have df : ∀ j, w1.frozen? ⟨gn, j, none⟩ = false := (fun j => by simp [World.frozen?, HG1.out]); clear hb hk hv)
  go_ret2
  exact ⟨k, f, rfl, (Only.of_below (S := fun j => j = gn) HB.out).setCell gn 0 rfl _, HK.out, n, blk_set HG1.out 0 _, HV.out⟩
set_option maxHeartbeats 4000000 in
set_option maxRecDepth 100000 in
theorem rint_calls {W : World} {b g : Nat} {ys : List Int} (hR : Rd W b g ys) :
    Calls Tryz.prog 75 #[.pointer (some ⟨g, 0, none⟩)] W fun e w' => ∃ (n f : Int) (ys' : List Int), e = .returned (.tuple #[.int .i64 n, .int .i64 f]) ∧ Rd w' b g ys' ∧ Only (fun j => j = g) W w' ∧ ∀ x r, ys = x :: r → 128 ≤ x → x ≤ 247 → n = x - 128 ∧ f = 0 ∧ ys' = r := by
  have eg : ∀ args w, (callFunc 117 args).run Tryz.prog w = .ok (.enter 117 args) w := enters_of Tryz.func117 (by kernel_rfl) rfl
  have hlt := hR.lt
  have q1 := hR.1
  have q2 := hR.2.1
  have TK := Aside0.mk (fun (W1 : World) (hb : Below W.heap.size W W1) (hcell : W1.heap[W.heap.size]? = some (.cells #[.int .i64 0] 2 (0, 0))) =>
    take_calls 117 W.heap.size #[.pointer (some ⟨W.heap.size, 0, none⟩)] eg (hR.below hb) hlt.2 (fun k f w1 => ∃ n, w1.heap[W.heap.size]? = some (.cells #[.int .i64 n] 2 (0, 0)) ∧ ∀ x r, ys = x :: r → 128 ≤ x → x ≤ 247 → n = x - 128 ∧ k = 1 ∧ f = 0)
      (fun k f w1 v _ q => by
        obtain ⟨n, h1, h2⟩ := q
        exact ⟨n, (Below.heap_setCell w1 ⟨g, 1, none⟩ v W.heap.size (by show W.heap.size ≠ g; omega)).trans h1, h2⟩)
      (fun A c W2 _ he hA hc _ => int_lit A c W.heap.size ys W2 0 (fun i hi => by
        obtain ⟨ad, e, hx⟩ := hA i hi
        exact ⟨ad, e, cell_heap hx (by rw [he])⟩) q1 q2 hc (by rw [he]; exact hcell)))
  clear hR eg q1 q2
  go_enter Tryz.func75, Tryz.ntmps75
  go_wp2_with (go_at_call 116; refine (TK.out _ (by first | exact below_alloc (Below.refl _ _) _ | exact below_drew1 (below_alloc (Below.refl _ _) _)) (by exact heap_alloc_new W _)).mono ?_; rintro e w1 ⟨k, f, rfl, ho, ⟨n, hn, hv⟩, hy, hz⟩; have HO := Aside0.mk ho; have HN := Aside0.mk hn; have HV := Aside0.mk hv; have HY := Aside0.mk hy; have HZ := Aside0.mk hz; have d0 : w1.cell? ⟨W.heap.size, 0, none⟩ = some (.int .i64 n) := (by simp [World.cell?, hn]); have df : ∀ j, w1.frozen? ⟨W.heap.size, j, none⟩ = false := (fun j => by simp [World.frozen?, hn]); clear ho hn hv hy hz)
  have dz : (w1.setCell ⟨W.heap.size, 0, none⟩ (.int .i64 n)).cell? ⟨W.heap.size, 0, none⟩ = some (.int .i64 n) := World.cell?_setCell_same _ _ _ d0
  (try simp only [Exit.inBlock, Exit.then])
  refine bodyPost_ret (v := .tuple #[.int .i64 n, .int .i64 f]) (by rw [results_cell_tmp rfl]; go_simp) rfl ?_
  have hS : Only (fun j => j = W.heap.size) w1 (w1.setCell ⟨W.heap.size, 0, none⟩ (.int .i64 n)) := (Only.of_below (S := fun j => j = W.heap.size) (Below.refl _ _)).setCell W.heap.size 0 rfl _
  have hW : Only (fun j => j = g) W (w1.setCell ⟨W.heap.size, 0, none⟩ (.int .i64 n)) := ((Only.of_below (below_alloc (Below.refl _ _) (.cells #[.int .i64 0] 2 (0, 0)))).trans (HO.out.trans (hS.wide (fun _ _ q => .inr q)))).wide (fun j hj q => q.elim id (fun q => absurd hj (by omega)))
  by_cases hf : f = 0
  · obtain ⟨y1, y2⟩ := HY.out hf
    refine ⟨n, f, _, rfl, y2.only hS (fun j hj q => by omega), hW, fun x r h h1 h2 => ?_⟩
    obtain ⟨v1, v2, _⟩ := HV.out x r h h1 h2
    subst h
    subst v2
    exact ⟨v1, hf, rfl⟩
  · refine ⟨n, f, _, rfl, (HZ.out hf).only hS (fun j hj q => by omega), hW, fun x r h h1 h2 => ?_⟩
    exact absurd (HV.out x r h h1 h2).2.2 hf
set_option maxHeartbeats 4000000 in
set_option maxRecDepth 100000 in
theorem flag_lit (A : Option Addr) (c gn : Nat) (ys : List Int) (W : World) (n0 : Bool) (hA : RowAt W A ys) (hr : RdOk ys) (hlen : ys.length ≤ 140737488355328) (hc : ys.length ≤ c) (hg : W.heap[gn]? = some (.cells #[.bool n0] 4 (0, 0))) :
    Calls Tryz.prog 119 #[.slice A ys.length c, .pointer (some ⟨gn, 0, none⟩)] W fun e w' => ∃ k f : Int, e = .returned (.tuple #[.int .i64 k, .int .i64 f]) ∧ Only (fun j => j = gn) W w' ∧ (f = 0 → 0 < k ∧ k ≤ (ys.length : Int)) ∧ ∃ n, w'.heap[gn]? = some (.cells #[.bool n] 4 (0, 0)) ∧ ∀ x r, ys = x :: r → (x = 128 ∨ x = 129) → n = decide (x = 129) ∧ k = 1 ∧ f = 0 := by
  have CG := Aside0.mk (get_calls A c ys W hA hr hlen hc)
  have HG := Aside0.mk hg
  have c0 : W.cell? ⟨gn, 0, none⟩ = some (.bool n0) := by simp [World.cell?, hg]
  have cf : ∀ j, W.frozen? ⟨gn, j, none⟩ = false := fun j => by simp [World.frozen?, hg]
  clear hA hr hlen hc hg
  go_enter Tryz.func119, Tryz.ntmps119
  go_wp2_with (go_at_call 118; refine CG.out.mono ?_; rintro e w1 ⟨n, k, f, rfl, hb, hk, hv⟩; have HB := Aside0.mk hb; have HK := Aside0.mk hk; have HV := Aside0.mk hv; have HG1 := Aside0.mk ((hb.block gn (blk_lt HG.out)).trans HG.out); have d0 : w1.cell? ⟨gn, 0, none⟩ = some (.bool n0) := (by simp [World.cell?, HG1.out]); have df : ∀ j, w1.frozen? ⟨gn, j, none⟩ = false := (fun j => by simp [World.frozen?, HG1.out]); clear hb hk hv)
  · go_ret2
    refine ⟨_, _, rfl, Only.of_below HB.out, (fun h => absurd h (by decide)), n0, HG1.out, fun x r h hx => ?_⟩
    obtain ⟨v1, v2, v3⟩ := HV.out x r h (by omega) (by omega)
    rename_i hq
    simp at hq
    omega
  · rename_i hf hq
    go_ret2
    refine ⟨_, _, rfl, (Only.of_below (S := fun j => j = gn) HB.out).setCell gn 0 rfl _, fun _ => HK.out hf, _, blk_set HG1.out 0 _, fun x r h hx => ?_⟩
    obtain ⟨v1, v2, v3⟩ := HV.out x r h (by omega) (by omega)
    refine ⟨?_, v2, rfl⟩
    rw [v1]
    rcases hx with hx | hx <;> subst hx <;> decide
  · rename_i hf
    go_ret2
    refine ⟨_, _, rfl, (Only.of_below (S := fun j => j = gn) HB.out).setCell gn 0 rfl _, HK.out, _, blk_set HG1.out 0 _, fun x r h hx => ?_⟩
    exact absurd (HV.out x r h (by omega) (by omega)).2.2 hf
set_option maxHeartbeats 4000000 in
set_option maxRecDepth 100000 in
theorem rflag_calls {W : World} {b g : Nat} {ys : List Int} (hR : Rd W b g ys) :
    Calls Tryz.prog 76 #[.pointer (some ⟨g, 0, none⟩)] W fun e w' => ∃ (n : Bool) (f : Int) (ys' : List Int), e = .returned (.tuple #[.bool n, .int .i64 f]) ∧ Rd w' b g ys' ∧ Only (fun j => j = g) W w' ∧ ∀ x r, ys = x :: r → (x = 128 ∨ x = 129) → n = decide (x = 129) ∧ f = 0 ∧ ys' = r := by
  have eg : ∀ args w, (callFunc 119 args).run Tryz.prog w = .ok (.enter 119 args) w := enters_of Tryz.func119 (by kernel_rfl) rfl
  have hlt := hR.lt
  have q1 := hR.1
  have q2 := hR.2.1
  have TK := Aside0.mk (fun (W1 : World) (hb : Below W.heap.size W W1) (hcell : W1.heap[W.heap.size]? = some (.cells #[.bool false] 4 (0, 0))) =>
    take_calls 119 W.heap.size #[.pointer (some ⟨W.heap.size, 0, none⟩)] eg (hR.below hb) hlt.2 (fun k f w1 => ∃ n, w1.heap[W.heap.size]? = some (.cells #[.bool n] 4 (0, 0)) ∧ ∀ x r, ys = x :: r → (x = 128 ∨ x = 129) → n = decide (x = 129) ∧ k = 1 ∧ f = 0)
      (fun k f w1 v _ q => by
        obtain ⟨n, h1, h2⟩ := q
        exact ⟨n, (Below.heap_setCell w1 ⟨g, 1, none⟩ v W.heap.size (by show W.heap.size ≠ g; omega)).trans h1, h2⟩)
      (fun A c W2 _ he hA hc _ => flag_lit A c W.heap.size ys W2 false (fun i hi => by
        obtain ⟨ad, e, hx⟩ := hA i hi
        exact ⟨ad, e, cell_heap hx (by rw [he])⟩) q1 q2 hc (by rw [he]; exact hcell)))
  clear hR eg q1 q2
  go_enter Tryz.func76, Tryz.ntmps76
  go_wp2_with (go_at_call 116; refine (TK.out _ (by first | exact below_alloc (Below.refl _ _) _ | exact below_drew1 (below_alloc (Below.refl _ _) _)) (by exact heap_alloc_new W _)).mono ?_; rintro e w1 ⟨k, f, rfl, ho, ⟨n, hn, hv⟩, hy, hz⟩; have HO := Aside0.mk ho; have HN := Aside0.mk hn; have HV := Aside0.mk hv; have HY := Aside0.mk hy; have HZ := Aside0.mk hz; have d0 : w1.cell? ⟨W.heap.size, 0, none⟩ = some (.bool n) := (by simp [World.cell?, hn]); have df : ∀ j, w1.frozen? ⟨W.heap.size, j, none⟩ = false := (fun j => by simp [World.frozen?, hn]); clear ho hn hv hy hz)
  have dz : (w1.setCell ⟨W.heap.size, 0, none⟩ (.bool n)).cell? ⟨W.heap.size, 0, none⟩ = some (.bool n) := World.cell?_setCell_same _ _ _ d0
  (try simp only [Exit.inBlock, Exit.then])
  refine bodyPost_ret (v := .tuple #[.bool n, .int .i64 f]) (by rw [results_cell_tmp rfl]; go_simp) rfl ?_
  have hS : Only (fun j => j = W.heap.size) w1 (w1.setCell ⟨W.heap.size, 0, none⟩ (.bool n)) := (Only.of_below (S := fun j => j = W.heap.size) (Below.refl _ _)).setCell W.heap.size 0 rfl _
  have hW : Only (fun j => j = g) W (w1.setCell ⟨W.heap.size, 0, none⟩ (.bool n)) := ((Only.of_below (below_alloc (Below.refl _ _) (.cells #[.bool false] 4 (0, 0)))).trans (HO.out.trans (hS.wide (fun _ _ q => .inr q)))).wide (fun j hj q => q.elim id (fun q => absurd hj (by omega)))
  by_cases hf : f = 0
  · obtain ⟨y1, y2⟩ := HY.out hf
    refine ⟨n, f, _, rfl, y2.only hS (fun j hj q => by omega), hW, fun x r h h1 => ?_⟩
    obtain ⟨v1, v2, _⟩ := HV.out x r h h1
    subst h
    subst v2
    exact ⟨v1, hf, rfl⟩
  · refine ⟨n, f, _, rfl, (HZ.out hf).only hS (fun j hj q => by omega), hW, fun x r h h1 => ?_⟩
    exact absurd (HV.out x r h h1).2.2 hf
end Go.Proofs.YtmeopdjdjmjngaaGreatDoor.Cod
