/- schema.Parse at bytes that are no definition's. -/
import Derived.Test.YtmeopdjdjmjngaaGreatDoorCodP11
set_option linter.unusedVariables false
set_option linter.unusedSimpArgs false
namespace Go.Proofs.YtmeopdjdjmjngaaGreatDoor.I
open Go.RowKit Go.Lib Go.Proofs.YtmeopdjdjmjngaaGreatDoorW.PrintWords Go.Proofs.YtmeopdjdjmjngaaGreatDoorW.PrintLast Go.Proofs.YtmeopdjdjmjngaaGreatDoorW.PrintMore Go.Proofs.YtmeopdjdjmjngaaGreatDoor.Cod
theorem rdok_of {ys : List Int} (h : ∀ x ∈ ys, 0 ≤ x ∧ x < 256) : RdOk ys := fun i hi => by
  rw [List.getD_eq_getElem?_getD, List.getElem?_eq_getElem hi]
  exact h _ (List.getElem_mem hi)
theorem mem_rdok {ys : List Int} (h : RdOk ys) : ∀ x ∈ ys, 0 ≤ x ∧ x < 256 := fun x hx => by
  obtain ⟨i, hi, rfl⟩ := List.getElem_of_mem hx
  have := h i hi
  rw [List.getD_eq_getElem?_getD, List.getElem?_eq_getElem hi] at this
  exact this
theorem bytes_inj : ∀ (xs ys : List Int), (∀ x ∈ xs, 0 ≤ x ∧ x < 256) → (∀ x ∈ ys, 0 ≤ x ∧ x < 256) → Lib.bytesOf xs = Lib.bytesOf ys → xs = ys
  | [], [], _, _, _ => rfl
  | [], y :: ys, _, _, h => by simp [Lib.bytesOf] at h
  | x :: xs, [], _, _, h => by simp [Lib.bytesOf] at h
  | x :: xs, y :: ys, hx, hy, h => by
    unfold Lib.bytesOf at h
    rw [List.map_cons, List.map_cons] at h
    obtain ⟨h1, h2⟩ := List.cons.inj h
    have ih := bytes_inj xs ys (fun z hz => hx z (List.mem_cons_of_mem _ hz)) (fun z hz => hy z (List.mem_cons_of_mem _ hz)) h2
    have a := hx x List.mem_cons_self
    have b := hy y List.mem_cons_self
    have h3 := congrArg UInt8.toNat h1
    simp at h3
    rw [ih, show x = y by omega]
theorem sb_range (s : ByteArray) : ∀ x ∈ sb s, 0 ≤ x ∧ x < 256 := fun x hx => by
  unfold sb at hx
  obtain ⟨b, _, rfl⟩ := List.mem_map.1 hx
  have := UInt8.toNat_lt b
  omega
theorem enc_range {nm : ByteArray} {l : List AC} (h : DefOk nm l) : ∀ x ∈ enc nm l, 0 ≤ x ∧ x < 256 := fun x hx => by
  obtain ⟨h1, h2, h3, h4⟩ := h
  unfold enc encH at hx
  rcases List.mem_append.1 hx with hx | hx
  · rcases List.mem_append.1 hx with hx | hx
    · rcases List.mem_append.1 hx with hx | hx
      · exact sb_range nm x hx
      · simp at hx; omega
    · simp at hx; omega
  · unfold encL at hx
    obtain ⟨c, hc, hx⟩ := List.mem_flatMap.1 hx
    obtain ⟨q1, q2, q3, q4⟩ := h4 c hc
    unfold encC at hx
    rcases List.mem_append.1 hx with hx | hx
    · rcases List.mem_append.1 hx with hx | hx
      · rcases List.mem_append.1 hx with hx | hx
        · rcases List.mem_append.1 hx with hx | hx
          · exact sb_range _ x hx
          · simp at hx; omega
        · simp at hx; omega
      · simp at hx; omega
    · rw [List.mem_singleton] at hx
      split at hx <;> omega
theorem equal_no {nm : ByteArray} {l : List AC} {raw : List Int} (h : DefOk nm l) (hr : RdOk raw) (hne : ¬ raw = enc nm l) : bytes_Equal.f (enc nm l) raw = some false := by
  unfold bytes_Equal.f
  congr 1
  rw [Lib.strOfNums_toList, Lib.strOfNums_toList]
  refine beq_eq_false_iff_ne.mpr fun e => hne ?_
  exact (bytes_inj _ _ (enc_range h) (mem_rdok hr) e).symm
theorem conv_ex (n : Int) : ∃ a b : Int, (∀ w, (convert 2 21 (.int .i64 n)).run Tryz.prog w = .ok (.int .i32 a) w) ∧ (∀ w, (convert 21 2 (.int .i32 a)).run Tryz.prog w = .ok (.int .i64 b) w) :=
  ⟨_, _, fun w => by simp [convert, run_underlying Tryz.underlying2, run_underlying Tryz.underlying21, Result.andThen]; rfl, fun w => by simp [convert, run_underlying Tryz.underlying2, run_underlying Tryz.underlying21, Result.andThen]; rfl⟩
set_option maxHeartbeats 8000000 in
set_option maxRecDepth 100000 in
theorem parse_no (A : Option Addr) (c : Nat) (raw : List Int) (W : World) (hA : Kd.C (Kd.int .u8) W A raw.length raw) (hc : raw.length ≤ c) (hr : RdOk raw) (hlen : raw.length ≤ 140737488355328) (hno : ∀ nm cols, schema_Check.f nm cols = some 0 → raw = enc nm cols → False) :
    Calls Tryz.prog 38 #[.slice A raw.length c] W fun e w' => e = .returned (.tuple #[.agg #[.string ⟨#[]⟩, .slice none 0 0], .int .i64 111]) ∧ Below W.heap.size W w' := by
  have hu24 := Tryz.underlying24
  have hu36 := Tryz.underlying36
  have hu34 := Tryz.underlying34
  have hu22 := Tryz.underlying22
  obtain ⟨i0, hi0, hz0, hzs, hzb⟩ := info_parts info36
  have NR := Aside0.mk (fun (W1 : World) (hb : Below W.heap.size W W1) => newReader_calls A c raw W1 (rowAt_of (Kd.C_below hA hb)) hr hlen)
  have HB0 := Aside0.mk (below_alloc (Below.refl W.heap.size W) (.cells #[.string (⟨#[]⟩ : ByteArray), .slice none 0 0] 24))
  have HK0 := Aside0.mk (heap_alloc_new W (.cells #[.string (⟨#[]⟩ : ByteArray), .slice none 0 0] 24))
  have HA := Aside0.mk hA
  have HC := Aside0.mk hc
  have HRW := Aside0.mk hr
  have HNO := Aside0.mk hno
  clear hA hc hr hlen hno
  go_enter Tryz.func38, Tryz.ntmps38
  go_wp2_with (first
    | (go_at_call 73; refine (NR.out _ HB0.out).mono ?_; rintro e w1 ⟨g, rfl, hg, hrd, hb⟩; have HG1 := Aside0.mk hg; have HR1 := Aside0.mk hrd; have HB1 := Aside0.mk (HB0.out.trans (hb.mono HB0.out.size)); have HK1 := Aside0.mk ((hb.block W.heap.size (blk_lt HK0.out)).trans HK0.out); clear hg hrd hb)
    | (go_at_call 74; refine (rtext_calls HR1.out).mono ?_; rintro e w2 ⟨s, f1, ys2, rfl, hrd, ho, -⟩; have HR2 := Aside0.mk hrd; have HO2 := Aside0.mk ho; clear hrd ho)
    | (go_at_call 75; refine (rint_calls HR2.out).mono ?_; rintro e w3 ⟨n, f2, ys3, rfl, hrd, ho, -⟩; have HR3 := Aside0.mk hrd; have HO3 := Aside0.mk (HO2.out.trans ho); have HGB := Aside0.mk (show g < w1.heap.size ∧ w1.heap.size ≤ w3.heap.size ∧ W.heap.size < g from ⟨HR1.out.lt.1, HO3.out.size, by have := HG1.out; simp at this; omega⟩); have HB3 := Aside0.mk (HB1.out.trans (HO3.out.below (base := W.heap.size) (fun k q => by have := HGB.out; omega) HB1.out.size)); have HK3 := Aside0.mk ((HO3.out.block W.heap.size (blk_lt HK1.out) (by have := HG1.out; simp at this; omega)).trans HK1.out); obtain ⟨k0, k1', kf⟩ := d36_facts HK3.out; clear hrd ho; by_cases hq : f1 = 0 ∧ f2 = 0 ∧ 0 ≤ n ∧ n ≤ 32; (obtain ⟨p1, p2, p3, p4⟩ := hq; subst p1; subst p2; obtain ⟨m, p5⟩ := Int.eq_ofNat_of_zero_le p3; subst p5)))
  · have hgb := HR1.out.lt
    have HD3 := Aside0.mk (heap_alloc_new w3 (.cells #[.string s, .slice none 0 0] 24))
    obtain ⟨D, hD⟩ : ∃ D, D = w3.heap.size := ⟨_, rfl⟩
    have HR4 := Aside0.mk (HR3.out.below (below_alloc (Below.refl _ _) (.cells #[.string s, .slice none 0 0] 24)))
    have HB4 := Aside0.mk (below_alloc HB3.out (.cells #[.string s, .slice none 0 0] 24))
    have HK4 := Aside0.mk ((heap_alloc_old w3 (.cells #[.string s, .slice none 0 0] 24) (blk_lt HK3.out)).trans HK3.out)
    have HSZ := Aside0.mk (show (w3.alloc (.cells #[.string s, .slice none 0 0] 24)).heap.size = w3.heap.size + 1 by simp)
    rw [← hD] at HD3 HGB HSZ ⊢
    generalize hbb : w1.heap.size = bb at HR4 HGB hgb
    clear hD hbb HR1 HR2 HR3 HO2 HO3 HB3 HK3 HK1 k0 k1' kf
    generalize w3.alloc (.cells #[.string s, .slice none 0 0] 24) = w4 at HR4 HB4 HK4 HD3 HSZ ⊢
    go_loopg [50] (m + 1) (fun kq v50 w' => ∃ (i : Nat) (v : Value) (l : List AC) (ys : List Int), v50 = .int .i64 (i : Int) ∧ Aside0 (i + kq = m + 1 ∧ i ≤ m) ∧ Aside0 (l.length = i) ∧ Aside0 (Rd w' bb g ys) ∧ Aside0 (w'.heap[D]? = some (.cells #[.string s, v] 24 (0, 0))) ∧ Aside0 (w'.ownsRow (D + 1) 36 4 v i (l.flatMap cC)) ∧ Aside0 (Below W.heap.size W w') ∧ Aside0 (w'.heap[W.heap.size]? = some (.cells #[.string (⟨#[]⟩ : ByteArray), .slice none 0 0] 24 (0, 0))) ∧ Aside0 (D + 1 ≤ w'.heap.size))
    case atStart => exact ⟨0, _, [], _, rfl, ⟨⟨by omega, by omega⟩⟩, ⟨rfl⟩, HR4, HD3, ⟨own_nil _ _ _ _⟩, HB4, HK4, ⟨Nat.le_of_eq HSZ.out.symm⟩⟩
    case round =>
      obtain ⟨i, v, l, ys, rfl, HI, HLL, HRr, HDr, HOr, HBr, HKr, HLr⟩ := hrel
      cases gk with
      | zero => exact absurd HI.out (by omega)
      | succ k1 =>
        rcases Nat.lt_or_ge i m with cI | cI
        · have c0 : decide ((i : Int) < (m : Int)) = true := decide_eq_true (by omega)
          obtain ⟨Av, cv, e⟩ := own_slice HOr.out
          subst e
          go_wp2_with (first
            | (go_at_call 74; refine (rtext_calls HRr.out).mono ?_; rintro e w5 ⟨s5, f5, ys5, rfl, hrd, ho, -⟩; have HR5 := Aside0.mk hrd; have HO5 := Aside0.mk ho; clear hrd ho)
            | (go_at_call 75; refine (rint_calls HR5.out).mono ?_; rintro e w6 ⟨n6, f6, ys6, rfl, hrd, ho, -⟩; have HR6 := Aside0.mk hrd; have HO6 := Aside0.mk (HO5.out.trans ho); clear hrd ho HR5)
            | (go_at_call 75; refine (rint_calls HR6.out).mono ?_; rintro e w7 ⟨n7, f7, ys7, rfl, hrd, ho, -⟩; have HR7 := Aside0.mk hrd; have HO7 := Aside0.mk (HO6.out.trans ho); clear hrd ho HR6)
            | (go_at_call 76; refine (rflag_calls HR7.out).mono ?_; rintro e w8 ⟨n8, f8, ys8, rfl, hrd, ho, -⟩; have HR8 := Aside0.mk hrd; have HO8 := Aside0.mk (HO7.out.trans ho); have HD8 := Aside0.mk ((HO8.out.block D (blk_lt HDr.out) (by have := HGB.out; omega)).trans HDr.out); obtain ⟨d0, d1, df⟩ := d36_facts HD8.out; have HB8 := Aside0.mk (HBr.out.trans (HO8.out.below (base := W.heap.size) (fun k q => by have := HGB.out; omega) HBr.out.size)); have HK8 := Aside0.mk ((HO8.out.block W.heap.size (blk_lt HKr.out) (by have := HGB.out; omega)).trans HKr.out); obtain ⟨k0, k1', kf⟩ := d36_facts HK8.out; have HOa := Aside0.mk (show (w8.alloc (.cells #[.string s5, .int .i64 n6, .int .i64 n7, .bool n8] 36)).ownsRow (D + 1) 36 4 (.slice Av i cv) i (l.flatMap cC) from own_move HOr.out (fun k hk => (heap_alloc_old _ _ (Nat.lt_of_lt_of_le (own_lt HOr.out k hk) HO8.out.size)).trans (HO8.out.block k (own_lt HOr.out k hk) (by have := own_base HOr.out k hk; have := HGB.out; omega)))); clear hrd ho; obtain ⟨a6, b6, v6, v6'⟩ := conv_ex n6; obtain ⟨a7, b7, v7, v7'⟩ := conv_ex n7; by_cases hq : (f5 = 0 ∧ f6 = 0 ∧ f7 = 0 ∧ f8 = 0) ∧ n6 = b6 ∧ n7 = b7; (obtain ⟨⟨x1, x2, x3, x4⟩, x5, x6⟩ := hq; subst x1; subst x2; subst x3; subst x4; have e6 : (n6 != b6) = false := bne_eq_false_iff_eq.mpr x5; have e7 : (n7 != b7) = false := bne_eq_false_iff_eq.mpr x6; clear x5 x6))
            | (at_builtin; refine wpList_append_own _ rfl _ _ 22 rfl (D + 1) 36 i0 (.agg #[(.string ⟨#[]⟩), (.int .i64 0), (.int .i64 0), (.bool false)]) 4 40 hu22 hi0 hz0 hzs hzb rfl (by decide) _ _ _ rfl HOa.out ⟨w8.heap.size, 0, none⟩ 1 1 [.string s5, .int .i64 n6, .int .i64 n7, .bool n8] rfl ?qc1 ?qc2 ?qc3 ?qc4 ?qc5 ?qc6 ?_))
          case qc1 => rfl
          case qc2 =>
            intro j u hj
            rw [Addr.add_lit, Nat.zero_add]
            have hn := heap_alloc_new w8 (.cells #[.string s5, .int .i64 n6, .int .i64 n7, .bool n8] 36)
            unfold World.cell?
            rw [hn]
            rw [← hj]
            show (#[Value.string s5, .int .i64 n6, .int .i64 n7, .bool n8] : Array Value)[j]? = _
            simp
          case qc3 =>
            intro u hu
            simp at hu
            rcases hu with rfl | rfl | rfl | rfl <;> rfl
          case qc4 => unfold maxLen; omega
          case qc5 => omega
          case qc6 => have := HLr.out; have := HO8.out.size; simp; omega
          · intro v9 w9 hown hgrow _
            have hOa : Only (fun k => D ≤ k) w8 w9 := ⟨hgrow.os, hgrow.tape, hgrow.output, by have := hgrow.size; simp at this; omega, fun k hk hne => (hgrow.block k (by simp; omega) (fun q => by have := own_base HOa.out k q.symm; omega)).trans (heap_alloc_old _ _ hk)⟩
            have hD9 : w9.heap[D]? = some (.cells #[.string s, .slice Av i cv] 24 (0, 0)) := (hgrow.block D (by have := blk_lt HD8.out; simp; omega) (fun q => by have := own_base HOa.out D q.symm; omega)).trans ((heap_alloc_old _ _ (blk_lt HD8.out)).trans HD8.out)
            obtain ⟨A9, c9, e⟩ := own_slice hown
            subst e
            have hO10 : Only (fun k => D ≤ k) w8 (w9.setCell ⟨D, 1, none⟩ (.slice A9 (i + 1) c9)) := hOa.setCell D 1 (Nat.le_refl _) _
            have hW10 : Only (fun k => k = g ∨ D ≤ k) wr (w9.setCell ⟨D, 1, none⟩ (.slice A9 (i + 1) c9)) := (HO8.out.wide (fun _ _ q => .inl q)).trans (hO10.wide (fun _ _ q => .inr q))
            have HR10 := Aside0.mk (HR8.out.only hO10 (fun k hk q => by have := HGB.out; have : D ≤ k := q; omega))
            have HB10 := Aside0.mk (HBr.out.trans (hW10.below (base := W.heap.size) (fun k q => by have := HGB.out; omega) HBr.out.size))
            have HK10 := Aside0.mk ((hW10.block W.heap.size (blk_lt HKr.out) (by have := HGB.out; omega)).trans HKr.out)
            have HD10 := Aside0.mk (blk_set hD9 1 (.slice A9 (i + 1) c9))
            have HO10 := Aside0.mk (own_move (w1 := w9.setCell ⟨D, 1, none⟩ (.slice A9 (i + 1) c9)) hown (fun k hk => Below.heap_setCell w9 ⟨D, 1, none⟩ _ k (by have := own_base hown k hk; show k ≠ D; omega)))
            have HL10 := Aside0.mk (show D + 1 ≤ (w9.setCell ⟨D, 1, none⟩ (.slice A9 (i + 1) c9)).heap.size from Nat.le_trans HLr.out hW10.size)
            have HT : l.flatMap cC ++ [.string s5, .int .i64 n6, .int .i64 n7, .bool n8] = (l ++ [(⟨s5, ⟨n6, n7⟩, n8⟩ : AC)]).flatMap cC := by rw [List.flatMap_append]; simp [cC]
            rw [HT] at HO10
            obtain ⟨x0, x1, xf⟩ := d36_facts hD9
            have HW64 := Aside0.mk (show wrap64 ((i : Int) + 1) = ((i + 1 : Nat) : Int) by unfold wrap64; omega)
            clear hOa hD9 hown hgrow hO10 hW10 d0 d1 df HT k0 k1' kf v6 v6' v7 v7' e6 e7
            go_wp2
            go_roundg k1
            case measure => omega
            case rel => exact ⟨i + 1, _, _, _, by first | rw [HW64.out] | rfl, ⟨by have := HI.out; exact ⟨by omega, by omega⟩⟩, ⟨by rw [List.length_append, HLL.out]; rfl⟩, HR10, HD10, HO10, HB10, HK10, HL10⟩
          all_goals first
            | (exfalso; simp_all; done)
            | (have hF := blk_set (blk_set HK8.out 0 (.string (⟨#[]⟩ : ByteArray))) 1 (.slice none 0 0)
               obtain ⟨z0, z1, zf⟩ := d36_facts hF
               (try simp only [Exit.inBlock, Exit.then])
               refine bodyPost_ret (v := .tuple #[.agg #[.string (⟨#[]⟩ : ByteArray), .slice none 0 0], .int .i64 111]) (by rw [results_cell_tmp rfl]; go_simp) rfl ?_
               exact ⟨rfl, (HB8.out.setCell (p := ⟨W.heap.size, 0, none⟩) (Nat.le_refl _) _).setCell (p := ⟨W.heap.size, 1, none⟩) (Nat.le_refl _) _⟩)
        · have hI : i = m := by have := HI.out; omega
          subst hI
          have c0 : decide ((i : Int) < (i : Int)) = false := decide_eq_false (by omega)
          have ho := HOr.out
          rw [← HLL.out] at ho
          obtain ⟨Av, cv, e, hcv, hC⟩ := own_cols ho
          subst e
          obtain ⟨r, hrc⟩ := Check_ends s l (by rw [HLL.out]; omega)
          obtain ⟨d0, d1, df⟩ := d36_facts HDr.out
          obtain ⟨k0, k1', kf⟩ := d36_facts HKr.out
          have HBW := Aside0.mk (Below.refl wr.heap.size wr)
          have HCH := Aside0.mk hrc
          by_cases hr0 : r = 0
          · subst hr0
            have hdk := Check_ok s l hrc
            have BY := Aside0.mk (fun (W1 : World) (hb : Below wr.heap.size wr W1) => bytes_yes s Av cv l W1 (Kd.C_below hC hb) hcv hrc hdk)
            have HEQ := Aside0.mk (equal_no hdk HRW.out (fun e => HNO.out s l hrc e))
            clear ho hC hcv hrc hdk
            go_wp2_with (first
              | (go_at_call 36; refine (BY.out _ HBW.out).mono ?_; rintro x w5 ⟨v5, rfl, ho, hb⟩; obtain ⟨A5, c5, e5, hc5, hC5⟩ := own_bytes ho; subst e5; have HB5 := Aside0.mk hb; have HC5 := Aside0.mk hc5; have HR5 := Aside0.mk hC5; clear ho hb hc5 hC5)
              | (go_at_call 40; refine (bytes_Equal.calls A5 c5 (enc s l) A c raw false w5 HR5.out HC5.out (Kd.C_below HA.out (HBr.out.trans (HB5.out.mono HBr.out.size))) HC.out HEQ.out).mono ?_; rintro x w6 ⟨rfl, hb⟩; have HB6 := Aside0.mk (HB5.out.trans (hb.below.mono HB5.out.size)); have HK6 := Aside0.mk ((HB6.out.block W.heap.size (blk_lt HKr.out)).trans HKr.out); obtain ⟨y0, y1, yf⟩ := d36_facts HK6.out; clear hb))
            have hF := blk_set (blk_set HK6.out 0 (.string (⟨#[]⟩ : ByteArray))) 1 (.slice none 0 0)
            obtain ⟨z0, z1, zf⟩ := d36_facts hF
            (try simp only [Exit.inBlock, Exit.then])
            refine bodyPost_ret (v := .tuple #[.agg #[.string (⟨#[]⟩ : ByteArray), .slice none 0 0], .int .i64 111]) (by rw [results_cell_tmp rfl]; go_simp) rfl ?_
            exact ⟨rfl, ((HBr.out.trans (HB6.out.mono HBr.out.size)).setCell (p := ⟨W.heap.size, 0, none⟩) (Nat.le_refl _) _).setCell (p := ⟨W.heap.size, 1, none⟩) (Nat.le_refl _) _⟩
          · have BN := Aside0.mk (fun (W1 : World) (hb : Below wr.heap.size wr W1) => bytes_no s Av cv l W1 (Kd.C_below hC hb) hcv r hrc hr0)
            have e8 : (r != 0) = true := bne_iff_ne.mpr hr0
            have e9 : (r == 0) = false := beq_eq_false_iff_ne.mpr hr0
            clear ho hC hcv hrc hr0
            go_wp2_with (go_at_call 36; refine (BN.out _ HBW.out).mono ?_; rintro x w5 ⟨rfl, hb⟩; have HB6 := Aside0.mk hb; have HK6 := Aside0.mk ((HB6.out.block W.heap.size (blk_lt HKr.out)).trans HKr.out); obtain ⟨y0, y1, yf⟩ := d36_facts HK6.out; clear hb)
            have hF := blk_set (blk_set HK6.out 0 (.string (⟨#[]⟩ : ByteArray))) 1 (.slice none 0 0)
            obtain ⟨z0, z1, zf⟩ := d36_facts hF
            (try simp only [Exit.inBlock, Exit.then])
            refine bodyPost_ret (v := .tuple #[.agg #[.string (⟨#[]⟩ : ByteArray), .slice none 0 0], .int .i64 111]) (by rw [results_cell_tmp rfl]; go_simp) rfl ?_
            exact ⟨rfl, ((HBr.out.trans (HB6.out.mono HBr.out.size)).setCell (p := ⟨W.heap.size, 0, none⟩) (Nat.le_refl _) _).setCell (p := ⟨W.heap.size, 1, none⟩) (Nat.le_refl _) _⟩
  all_goals first
    | (exfalso; omega)
    | (have hF := blk_set (blk_set HK3.out 0 (.string (⟨#[]⟩ : ByteArray))) 1 (.slice none 0 0)
       obtain ⟨z0, z1, zf⟩ := d36_facts hF
       (try simp only [Exit.inBlock, Exit.then])
       refine bodyPost_ret (v := .tuple #[.agg #[.string (⟨#[]⟩ : ByteArray), .slice none 0 0], .int .i64 111]) (by rw [results_cell_tmp rfl]; go_simp) rfl ?_
       exact ⟨rfl, (HB3.out.setCell (p := ⟨W.heap.size, 0, none⟩) (Nat.le_refl _) _).setCell (p := ⟨W.heap.size, 1, none⟩) (Nat.le_refl _) _⟩)
end Go.Proofs.YtmeopdjdjmjngaaGreatDoor.I
