/- codec's Reader: Bytes, Text. -/
import Derived.Test.YtmeopdjdjmjngaaGreatDoorCodR11
import Derived.Shelf.Bytes.SlIndexAt
import Derived.Lib.IndexLaws
import Derived.StillTailTactics
set_option linter.unusedVariables false
set_option linter.unusedSimpArgs false
namespace Go.Proofs.YtmeopdjdjmjngaaGreatDoor.Cod
open Go.RowKit Go.Lib Go.Proofs.YtmeopdjdjmjngaaGreatDoorW.PrintWords Go.Proofs.YtmeopdjdjmjngaaGreatDoorW.PrintLast
def NoZ (s : ByteArray) : Prop := countByte (Lib.bytesOf (sb s)) (0 : Int).toNat.toUInt8 = 0
theorem sb_back (s : ByteArray) : Lib.bytesOf (sb s) = s.data.toList := by
  unfold Lib.bytesOf sb
  rw [List.map_map]
  have : ((fun n : Int => UInt8.ofNat n.toNat) ∘ fun b : UInt8 => (b.toNat : Int)) = id := by
    funext b
    simp
  rw [this, List.map_id]
theorem noZ_mem {s : ByteArray} (h : NoZ s) : ∀ c ∈ s.data.toList, c ≠ 0 := by
  unfold NoZ countByte at h
  rw [sb_back] at h
  intro c hc e
  subst e
  exact List.count_eq_zero.1 h hc
theorem ix_pre : ∀ (l r : List UInt8), (∀ c ∈ l, c ≠ 0) → indexByte (l ++ 0 :: r) 0 = (l.length : Int)
  | [], r, _ => by simp [indexByte]
  | b :: l, r, h => by
    have hb := h b (by simp)
    have ih := ix_pre l r (fun c hc => h c (List.mem_cons_of_mem _ hc))
    rw [List.cons_append, indexByte, if_neg (by simpa using hb), ih, if_neg (by simp <;> omega), List.length_cons]
    omega
theorem ix_text {s : ByteArray} {r : List Int} (h : NoZ s) : indexByte (Lib.bytesOf (sb s ++ [0, 0] ++ r)) (0 : Int).toNat.toUInt8 = (s.size : Int) := by
  have e : Lib.bytesOf (sb s ++ [0, 0] ++ r) = s.data.toList ++ 0 :: (0 :: Lib.bytesOf r) := by
    have hb := sb_back s
    unfold Lib.bytesOf at hb ⊢
    rw [List.map_append, List.map_append, hb]
    simp
  rw [e]
  exact (ix_pre _ _ (noZ_mem h)).trans (by rw [Array.length_toList]; rfl)
theorem ix_lt {l : List Int} {k : Nat} (h : indexByte (Lib.bytesOf l) (0 : Int).toNat.toUInt8 = (k : Int)) : k < l.length := by
  have := (indexByte_some h).1
  have h2 := (List.getElem?_eq_some_iff.1 this).1
  unfold Lib.bytesOf at h2
  rwa [List.length_map] at h2
set_option maxHeartbeats 4000000 in
set_option maxRecDepth 100000 in
theorem indexByte_calls (ad : Addr) (c : Nat) (xs : List Int) (W : World) (hx : BytesAt W ad xs) :
    Calls Tryz.prog 152 #[.slice (some ad) xs.length c, .int .u8 0] W fun e w' => e = .returned (.int .i64 (indexByte (Lib.bytesOf xs) (0 : Int).toNat.toUInt8)) ∧ w' = W := by
  have hrun : (callFunc 184 #[.slice (some ad) xs.length c, .int .u8 0]).run Tryz.prog W = .ok (.value (.int .i64 (indexByte (Lib.bytesOf xs) (0 : Int).toNat.toUInt8))) W := by
    rw [run_callFunc_extern Tryz.func184 (by kernel_rfl) (by kernel_rfl) (by kernel_rfl) (e := Extern.BytealgIndexByte.indexByte) (by kernel_rfl), Lib.run_indexByteAt W ad xs.length c xs rfl hx 0]
    rfl
  have mixed : Tryz.prog.follows Departure.mixedOrders = true := by kernel_rfl
  generalize (indexByte (Lib.bytesOf xs) (0 : Int).toNat.toUInt8) = n at hrun ⊢
  clear hx
  go_enter Tryz.func152, Tryz.ntmps152
  go_wp2_with (simp only [hrun])
  go_ret
  exact ⟨rfl, rfl⟩
set_option maxHeartbeats 4000000 in
set_option maxRecDepth 100000 in
theorem indexByte_none (A : Option Addr) (c : Nat) (W : World) :
    Calls Tryz.prog 152 #[.slice A 0 c, .int .u8 0] W fun e w' => e = .returned (.int .i64 (-1)) ∧ w' = W := by
  cases A with
  | some ad => exact indexByte_calls ad c [] W (fun i hi => absurd hi (by simp))
  | none =>
    have hrun : (callFunc 184 #[.slice none 0 c, .int .u8 0]).run Tryz.prog W = .ok (.value (.int .i64 (-1))) W := by
      rw [run_callFunc_extern Tryz.func184 (by kernel_rfl) (by kernel_rfl) (by kernel_rfl) (e := Extern.BytealgIndexByte.indexByte) (by kernel_rfl), Lib.run_indexByteNil W 0 c 0]
      rfl
    have mixed : Tryz.prog.follows Departure.mixedOrders = true := by kernel_rfl
    go_enter Tryz.func152, Tryz.ntmps152
    go_wp2_with (simp only [hrun])
    go_ret
    exact ⟨rfl, rfl⟩
theorem row_drop {W : World} {ad : Addr} {ys : List Int} (h : BytesAt W ad ys) (a : Nat) : BytesAt W (ad.add a) (ys.drop a) := fun i hi => by
  rw [List.length_drop] at hi
  rw [add_add', h (a + i) (by omega), List.getD_eq_getElem?_getD, List.getD_eq_getElem?_getD, List.getElem?_drop]
theorem row_take {W : World} {ad : Addr} {ys : List Int} (h : BytesAt W ad ys) (k : Nat) : BytesAt W ad (ys.take k) := fun i hi => by
  rw [List.length_take] at hi
  rw [h i (by omega), List.getD_eq_getElem?_getD, List.getD_eq_getElem?_getD, List.getElem?_take, if_pos (by omega)]
theorem still_drew {P : Program} {id : Nat} {Q : Exit → Act → World → Prop} {a : Act} {w : World} {l : List Oper} (n : Nat) (hm : P.follows .mixedOrders = true) (hB : Region.lexTailB .any l.toArray n = true)
    (h : ∀ wd : World, wd = w.drew → wpStill P l.toArray wd (fun a' => wpList P l.toArray Q (l.drop n) a' wd) (l.take n) a) : (Code.region id l.toArray true).wp P Q a w :=
  wp_region_still_tail n hm hB (h _ rfl)
theorem text_second {s : ByteArray} {r : List Int} : (sb s ++ [0, 0] ++ r).getD (s.size + 1) 0 = 0 := by
  rw [List.append_assoc, List.getD_eq_getElem?_getD, List.getElem?_append_right (by rw [sb_len]; omega), sb_len, show s.size + 1 - s.size = 1 by omega]
  rfl
theorem text_take {s : ByteArray} {r : List Int} : (sb s ++ [0, 0] ++ r).take s.size = sb s := by
  rw [List.append_assoc, ← sb_len s, List.take_left]
theorem wr_i64 (z : Int) (h0 : 0 ≤ z) (h1 : z < 9223372036854775808) : IntKind.i64.wrap z = z := by
  unfold IntKind.wrap IntKind.bits IntKind.signed
  simp
  omega
theorem RdOk.append {xs ys : List Int} (h : RdOk xs) (h2 : RdOk ys) : RdOk (xs ++ ys) := fun i hi => by
  rw [List.length_append] at hi
  rw [List.getD_eq_getElem?_getD]
  by_cases c : i < xs.length
  · rw [List.getElem?_append_left c, ← List.getD_eq_getElem?_getD]
    exact h i c
  · rw [List.getElem?_append_right (by omega), ← List.getD_eq_getElem?_getD]
    exact h2 _ (by omega)
theorem RdOk.take {ys : List Int} (h : RdOk ys) (k : Nat) : RdOk (ys.take k) := fun i hi => by
  rw [List.length_take] at hi
  have := h i (by omega)
  rw [List.getD_eq_getElem?_getD] at this ⊢
  rw [List.getElem?_take, if_pos (by omega)]
  exact this
theorem RdOk.zero : RdOk [0] := fun i hi => by
  have : i = 0 := by simpa using hi
  subst this
  decide
theorem text_drop {s : ByteArray} {r : List Int} : (sb s ++ [0, 0] ++ r).drop (s.size + 2) = r := by
  rw [List.drop_append_of_le_length (by rw [List.length_append, sb_len]; simp), List.drop_of_length_le (by rw [List.length_append, sb_len]; simp), List.nil_append]
def Big (ys : List Int) (a : Nat) (outs : List Int) : Prop := ∀ (s0 : ByteArray) (r : List Int), NoZ s0 → ys = sb s0 ++ [0, 0] ++ r → a = 0 ∧ outs = []
def BPost (W : World) (gn : Nat) (ys : List Int) (k f : Int) (w' : World) : Prop :=
  ∃ v outs, w'.heap[gn]? = some (.cells #[v] 62 (0, 0)) ∧ w'.ownsRow W.heap.size 5 1 v outs.length (nums .u8 outs) ∧ RdOk outs ∧ ∀ (s0 : ByteArray) (r : List Int), NoZ s0 → ys = sb s0 ++ [0, 0] ++ r → outs = sb s0 ∧ k = (s0.size : Int) + 2 ∧ f = 0
set_option maxHeartbeats 4000000 in
set_option maxRecDepth 100000 in
theorem bytes_lit (A : Option Addr) (c gn : Nat) (ys : List Int) (W : World) (hA : RowAt W A ys) (hr : RdOk ys) (hlen : ys.length ≤ 140737488355328) (hc : ys.length ≤ c) (hg : W.heap[gn]? = some (.cells #[.slice none 0 0] 62 (0, 0))) (hfar : ∀ ad, A = some ad → ad.block ≠ gn) :
    Calls Tryz.prog 151 #[.slice A ys.length c, .pointer (some ⟨gn, 0, none⟩)] W fun e w' => ∃ k f : Int, e = .returned (.tuple #[.int .i64 k, .int .i64 f]) ∧ Only (fun j => j = gn) W w' ∧ (f = 0 → 0 < k ∧ k ≤ (ys.length : Int)) ∧ BPost W gn ys k f w' := by
  obtain ⟨i0, hi0, hz0, hzs, hzb⟩ := info_parts i5
  have HA := Aside0.mk hA
  have HR := Aside0.mk hr
  have HG := Aside0.mk hg
  have HF := Aside0.mk hfar
  have HGL := Aside0.mk (blk_lt hg)
  clear hA hr hg hfar
  go_enter Tryz.func151, Tryz.ntmps151
  go_wp2
  go_loopg [5] (ys.length + 1) (fun kq v4 w' => ∃ (a : Nat) (outs : List Int) (v : Value), v4 = .int .i64 (a : Int) ∧ Aside0 (ys.length + 1 ≤ a + kq ∧ a ≤ ys.length) ∧ Aside0 (w'.heap[gn]? = some (.cells #[v] 62 (0, 0))) ∧ Aside0 (w'.ownsRow W.heap.size 5 1 v outs.length (nums .u8 outs)) ∧ Aside0 (Only (fun j => j = gn) W w') ∧ Aside0 (outs.length ≤ a) ∧ Aside0 (RdOk outs) ∧ Aside0 (Big ys a outs))
  case atStart => exact ⟨0, [], _, rfl, ⟨⟨by omega, by omega⟩⟩, ⟨HG.out⟩, ⟨own_nil _ _ _ _⟩, ⟨Only.of_below (Below.refl _ _)⟩, ⟨by simp⟩, ⟨fun i hi => absurd hi (by simp)⟩, ⟨fun _ _ _ _ => ⟨rfl, rfl⟩⟩⟩
  case round =>
    obtain ⟨a, outs, v, rfl, HI, HK, HO, HU, HL, HRO, HB⟩ := hrel
    have ha := HI.out.2
    cases gk with
    | zero => exact absurd HI.out (by omega)
    | succ k1 =>
      have d0 : wr.cell? ⟨gn, 0, none⟩ = some v := by simp [World.cell?, HK.out]
      have df : ∀ j, wr.frozen? ⟨gn, j, none⟩ = false := fun j => by simp [World.frozen?, HK.out]
      by_cases cA : a < ys.length
      · obtain ⟨ad, e, _⟩ := HA.out 0 (by omega)
        subst e
        have HBA := Aside0.mk (RowAt.bytes (HA.out.only HU.out (fun ad' e _ q => HF.out ad' e q)))
        have hca : ¬ (c = a) := by omega
        have ix := indexByte_calls (ad.add a) (c - a) (ys.drop a) wr (row_drop HBA.out a)
        rw [List.length_drop] at ix
        obtain ⟨i, hi⟩ : ∃ i, i = indexByte (Lib.bytesOf (ys.drop a)) (0 : Int).toNat.toUInt8 := ⟨_, rfl⟩
        have hge := indexByte_ge (Lib.bytesOf (ys.drop a)) (0 : Int).toNat.toUInt8
        rw [← hi] at ix hge
        have IX := Aside0.mk ix
        have HIX := Aside0.mk hi
        clear ix hi
        have ha2 : a ≤ c := by omega
        by_cases hneg : i = -1
        · subst hneg
          go_wp2_with (go_at_call 152; refine IX.out.mono ?_; rintro e w1 ⟨rfl, hw⟩; replace hw := hw.symm; subst hw)
          go_ret2
          refine ⟨_, _, rfl, HU.out, fun h => absurd h (by decide), v, outs, HK.out, HO.out, HRO.out, fun s0 r hz hy => ?_⟩
          obtain ⟨q1, q2⟩ := HB.out s0 r hz hy
          have := HIX.out
          rw [q1, List.drop_zero, hy, ix_text hz] at this
          omega
        · obtain ⟨kn, rfl⟩ := Int.eq_ofNat_of_zero_le (show 0 ≤ i by omega)
          have hkl : a + kn < ys.length := by
            have := ix_lt HIX.out.symm
            rw [List.length_drop] at this
            omega
          have hk0 : ¬ ((kn : Int) < 0) := by omega
          clear hge hneg
          by_cases hend : a + kn + 1 = ys.length
          · have hend' : ((a : Int) + (kn : Int) + 1 = (ys.length : Int)) := by omega
            go_wp2_with (go_at_call 152; refine IX.out.mono ?_; rintro e w1 ⟨rfl, hw⟩; replace hw := hw.symm; subst hw)
            go_ret2
            refine ⟨_, _, rfl, HU.out, fun h => absurd h (by decide), v, outs, HK.out, HO.out, HRO.out, fun s0 r hz hy => ?_⟩
            obtain ⟨q1, q2⟩ := HB.out s0 r hz hy
            have h1 := HIX.out
            rw [q1, List.drop_zero, hy, ix_text hz] at h1
            have h2 := congrArg List.length hy
            rw [List.length_append, List.length_append, sb_len] at h2
            simp at h2
            omega
          · have hend' : ¬ ((a : Int) + (kn : Int) + 1 = (ys.length : Int)) := by omega
            have hy := HBA.out (a + kn + 1) (by omega)
            obtain ⟨y0, y1⟩ := HR.out (a + kn + 1) (by omega)
            obtain ⟨y, hye⟩ : ∃ y, y = ys.getD (a + kn + 1) 0 := ⟨_, rfl⟩
            rw [← hye] at hy y0 y1
            have HYE := Aside0.mk hye
            clear hye
            have e1 : decide ((kn : Int) < 0) = false := decide_eq_false hk0
            have e2 : ((a : Int) + (kn : Int) + 1 == (ys.length : Int)) = false := beq_eq_false_iff_ne.mpr hend'
            obtain ⟨A1, c1, e⟩ := own_slice HO.out
            subst e
            obtain ⟨zs, hzs2⟩ : ∃ zs, zs = (ys.drop a).take kn := ⟨_, rfl⟩
            have hzl : zs.length = kn := by rw [hzs2, List.length_take, List.length_drop]; omega
            have HZ := Aside0.mk (show BytesAt wr (ad.add a) zs by rw [hzs2]; exact row_take (row_drop HBA.out a) kn)
            have HZE := Aside0.mk hzs2
            have HZL := Aside0.mk hzl
            have HYC := Aside0.mk hy
            clear hzs2 hzl hy
            have hak : ((a : Int) + (kn : Int)) ≤ (c : Int) := by omega
            have hak2 : a + kn ≤ c := by omega
            have hak3 : ((a : Int) ≤ (a : Int) + (kn : Int)) := by omega
            go_wp2_with (go_at_call 152; refine IX.out.mono ?_; rintro e w1 ⟨rfl, hw⟩; replace hw := hw.symm; subst hw)
            refine still_drew 7 (by kernel_rfl) (by kernel_rfl) ?_
            intro wd hwd
            have HO2 := Aside0.mk (show wd.ownsRow W.heap.size 5 1 (.slice A1 outs.length c1) outs.length (nums .u8 outs) from own_move HO.out (fun k hk => by rw [hwd]; rfl))
            have HZ2 := Aside0.mk (show BytesAt wd (ad.add a) zs from fun i hi => (HZ.out i hi) ▸ (by rw [hwd]; rfl))
            have HYD := Aside0.mk (show wd.cell? (ad.add (a + kn + 1)) = some (.int .u8 y) from HYC.out ▸ (by rw [hwd]; rfl))
            have HKD := Aside0.mk (show wd.heap[gn]? = some (.cells #[.slice A1 outs.length c1] 62 (0, 0)) from HK.out ▸ (by rw [hwd]; rfl))
            have HUD := Aside0.mk (show Only (fun j => j = gn) W wd from by rw [hwd]; exact ⟨HU.out.os, HU.out.tape, HU.out.output, HU.out.size, HU.out.block⟩)
            have d0 : wd.cell? ⟨gn, 0, none⟩ = some (.slice A1 outs.length c1) := by simp [World.cell?, HKD.out]
            have df : ∀ j, wd.frozen? ⟨gn, j, none⟩ = false := fun j => by simp [World.frozen?, HKD.out]
            clear hwd HO HZ HYC HK HU HBA IX
            have hkt : ((a : Int) + (kn : Int)).toNat - a = kn := by omega
            have hwr := wr_i64 ((a : Int) + (kn : Int)) (by omega) (by omega)
            simp only [List.take_succ_cons, List.take_zero, List.drop_succ_cons, List.drop_zero]
            repeat still_step
            refine wpStill_nil ?_
            go_wp2_with (at_builtin; refine wpList_append_own _ rfl _ _ 62 rfl W.heap.size 5 i0 (.int .u8 0) 1 1 u62 hi0 hz0 hzs hzb rfl (by decide) _ _ _ rfl HO2.out (ad.add a) kn (c - a) (nums .u8 zs) rfl ?qc1 ?qc2 ?qc3 ?qc4 ?qc5 ?qc6 ?_)
            case qc1 => rw [nums_len, HZL.out]; omega
            case qc2 => exact at_cells HZ2.out
            case qc3 => exact nums_one zs
            case qc4 => have := HL.out; unfold maxLen; omega
            case qc5 => have := HL.out; omega
            case qc6 => exact HUD.out.size
            intro v1 w1 hown hgrow _
            have hk1 : w1.heap[gn]? = some (.cells #[.slice A1 outs.length c1] 62 (0, 0)) := (hgrow.block gn (Nat.lt_of_lt_of_le HGL.out HUD.out.size) (fun q => by have := own_base HO2.out gn q.symm; have := HGL.out; omega)).trans HKD.out
            have e9 : nums .u8 outs ++ nums .u8 zs = nums .u8 (outs ++ zs) := by unfold nums; rw [List.map_append]
            rw [e9] at hown
            have hU1 : Only (fun j => j = gn) W w1 := ⟨hgrow.os.trans HUD.out.os, hgrow.tape.trans HUD.out.tape, hgrow.output.trans HUD.out.output, Nat.le_trans HUD.out.size hgrow.size, fun k hk hne => (hgrow.block k (Nat.lt_of_lt_of_le hk HUD.out.size) (fun q => by have := own_base HO2.out k q.symm; omega)).trans (HUD.out.block k hk hne)⟩
            obtain ⟨A2, c2, e⟩ := own_slice hown
            subst e
            have HU2 := Aside0.mk (hU1.setCell gn 0 rfl (.slice A2 (outs.length + kn) c2))
            have HO3 := Aside0.mk (show (w1.setCell ⟨gn, 0, none⟩ (.slice A2 (outs.length + kn) c2)).ownsRow W.heap.size 5 1 (.slice A2 (outs.length + kn) c2) (outs.length + kn) (nums .u8 (outs ++ zs)) from own_move hown (fun k hk => Below.heap_setCell w1 ⟨gn, 0, none⟩ _ k (by have := own_base hown k hk; have := HGL.out; show k ≠ gn; omega)))
            have HK2 := Aside0.mk (blk_set hk1 0 (.slice A2 (outs.length + kn) c2))
            have hyn : a + (kn + 1) = a + kn + 1 := by omega
            have hy1 : w1.cell? (ad.add (a + (kn + 1))) = some (.int .u8 y) := by
              rw [HYE.out, hyn]
              exact RowAt.bytes (HA.out.only hU1 (fun ad' e _ q => HF.out ad' e q)) (a + kn + 1) (by omega)
            have hy2 : (w1.setCell ⟨gn, 0, none⟩ (.slice A2 (outs.length + kn) c2)).cell? (ad.add (a + (kn + 1))) = some (.int .u8 y) := by
              rw [HYE.out, hyn]
              exact RowAt.bytes (HA.out.only HU2.out (fun ad' e _ q => HF.out ad' e q)) (a + kn + 1) (by omega)
            have b0 : w1.cell? ⟨gn, 0, none⟩ = some (.slice A1 outs.length c1) := by simp [World.cell?, hk1]
            have bf : ∀ j, w1.frozen? ⟨gn, j, none⟩ = false := fun j => by simp [World.frozen?, hk1]
            clear hown hgrow hU1 hk1 d0 df e9 HYD HO2 HZ2 HKD HUD
            clear hyn
            have hlz : (outs ++ zs).length = outs.length + kn := by rw [List.length_append, HZL.out]
            obtain ⟨us, hus⟩ : ∃ us, us = outs ++ zs := ⟨_, rfl⟩
            rw [← hus] at HO3 hlz
            have hgh : ∀ (s0 : ByteArray) (r : List Int), NoZ s0 → ys = sb s0 ++ [0, 0] ++ r → us = sb s0 ∧ a = 0 ∧ kn = s0.size ∧ y = 0 := fun s0 r hz hy => by
              obtain ⟨q1, q2⟩ := HB.out s0 r hz hy
              have h1 := HIX.out
              rw [q1, List.drop_zero, hy, ix_text hz] at h1
              have h2 : kn = s0.size := by omega
              refine ⟨?_, q1, h2, ?_⟩
              · rw [hus, q2, HZE.out, q1, List.drop_zero, h2, hy, text_take, List.nil_append]
              · rw [HYE.out, q1, h2, Nat.zero_add, hy, text_second]
            have HGH := Aside0.mk hgh
            have HRU := Aside0.mk (show RdOk us by rw [hus, HZE.out]; exact HRO.out.append ((HR.out.drop a).take kn))
            have HLZ := Aside0.mk hlz
            clear hgh hlz hus
            by_cases hy0 : y = 0
            · subst hy0
              go_wp2
              go_ret2
              refine ⟨_, _, rfl, HU2.out, fun _ => by omega, _, us, HK2.out, by rw [HLZ.out]; exact HO3.out, HRU.out, fun s0 r hz hy => ?_⟩
              obtain ⟨q1, q2, q3, _⟩ := HGH.out s0 r hz hy
              exact ⟨q1, by omega, rfl⟩
            · by_cases hy9 : y = 1
              · subst hy9
                have HOa := Aside0.mk (show ((w1.setCell ⟨gn, 0, none⟩ (.slice A2 (outs.length + kn) c2)).alloc (.cells #[.int .u8 0] 5)).ownsRow W.heap.size 5 1 (.slice A2 (outs.length + kn) c2) (outs.length + kn) (nums .u8 us) from own_move HO3.out (fun k hk => heap_alloc_old _ _ (own_lt HO3.out k hk)))
                go_wp2_with (at_builtin; refine wpList_append_own _ rfl _ _ 62 rfl W.heap.size 5 i0 (.int .u8 0) 1 1 u62 hi0 hz0 hzs hzb rfl (by decide) _ _ _ rfl HOa.out ⟨w1.heap.size, 0, none⟩ 1 1 [.int .u8 0] rfl ?qd1 ?qd2 ?qd3 ?qd4 ?qd5 ?qd6 ?_)
                case qd1 => rfl
                case qd2 =>
                  intro j u hj
                  rw [Addr.add_lit, Nat.zero_add]
                  have hn := heap_alloc_new (w1.setCell ⟨gn, 0, none⟩ (.slice A2 (outs.length + kn) c2)) (.cells #[.int .u8 0] 5)
                  have hsz : (w1.setCell ⟨gn, 0, none⟩ (.slice A2 (outs.length + kn) c2)).heap.size = w1.heap.size := by simp
                  rw [hsz] at hn
                  match j, hj with
                  | 0, hj => rw [← Option.some.inj hj]; unfold World.cell?; rw [hn]; rfl
                  | j + 1, hj => simp at hj
                case qd3 => intro u hu; simp at hu; rw [hu]; rfl
                case qd4 => have := HL.out; unfold maxLen; omega
                case qd5 => have := HL.out; omega
                case qd6 => have := HU2.out.size; simp at this ⊢; omega
                intro v3 w3 hown3 hgrow3 _
                have hUa : Only (fun j => j = gn) W ((w1.setCell ⟨gn, 0, none⟩ (.slice A2 (outs.length + kn) c2)).alloc (.cells #[.int .u8 0] 5)) := HU2.out.trans (Only.of_below (below_alloc (Below.refl _ _) _))
                have hKa : ((w1.setCell ⟨gn, 0, none⟩ (.slice A2 (outs.length + kn) c2)).alloc (.cells #[.int .u8 0] 5)).heap[gn]? = some (.cells #[.slice A2 (outs.length + kn) c2] 62 (0, 0)) := (heap_alloc_old _ _ (blk_lt HK2.out)).trans HK2.out
                have hk3 : w3.heap[gn]? = some (.cells #[.slice A2 (outs.length + kn) c2] 62 (0, 0)) := (hgrow3.block gn (Nat.lt_of_lt_of_le HGL.out hUa.size) (fun q => by have := own_base HOa.out gn q.symm; have := HGL.out; omega)).trans hKa
                have hU3 : Only (fun j => j = gn) W w3 := ⟨hgrow3.os.trans hUa.os, hgrow3.tape.trans hUa.tape, hgrow3.output.trans hUa.output, Nat.le_trans hUa.size hgrow3.size, fun k hk hne => (hgrow3.block k (Nat.lt_of_lt_of_le hk hUa.size) (fun q => by have := own_base HOa.out k q.symm; omega)).trans (hUa.block k hk hne)⟩
                have e9 : nums .u8 us ++ [Value.int .u8 0] = nums .u8 (us ++ [0]) := by unfold nums; rw [List.map_append]; rfl
                rw [e9] at hown3
                obtain ⟨A4, c4, e⟩ := own_slice hown3
                subst e
                have HU4 := Aside0.mk (hU3.setCell gn 0 rfl (.slice A4 (outs.length + kn + 1) c4))
                have HO4 := Aside0.mk (show (w3.setCell ⟨gn, 0, none⟩ (.slice A4 (outs.length + kn + 1) c4)).ownsRow W.heap.size 5 1 (.slice A4 (outs.length + kn + 1) c4) (us ++ [0]).length (nums .u8 (us ++ [0])) from by
                  rw [List.length_append, HLZ.out]
                  exact own_move hown3 (fun k hk => Below.heap_setCell w3 ⟨gn, 0, none⟩ _ k (by have := own_base hown3 k hk; have := HGL.out; show k ≠ gn; omega)))
                have HK4 := Aside0.mk (blk_set hk3 0 (.slice A4 (outs.length + kn + 1) c4))
                have g0 : w3.cell? ⟨gn, 0, none⟩ = some (.slice A2 (outs.length + kn) c2) := by simp [World.cell?, hk3]
                have gf : ∀ j, w3.frozen? ⟨gn, j, none⟩ = false := fun j => by simp [World.frozen?, hk3]
                clear hUa hKa hk3 hU3 e9 hown3 hgrow3 b0 bf hy1 hy2 HK2 HO3
                go_wp2
                go_roundg k1
                case measure => omega
                case rel => exact ⟨a + (kn + 2), us ++ [0], _, by first | rfl | (congr 1; omega), ⟨by have := HI.out; exact ⟨by omega, by omega⟩⟩, ⟨HK4.out⟩, ⟨HO4.out⟩, ⟨HU4.out⟩, ⟨by have := HL.out; rw [List.length_append, HLZ.out]; simp; omega⟩, ⟨HRU.out.append RdOk.zero⟩, ⟨fun s0 r hz hy => absurd (HGH.out s0 r hz hy).2.2.2 hy0⟩⟩
              · go_wp2
                go_ret2
                refine ⟨_, _, rfl, HU2.out, (fun h => absurd h (by decide)), _, us, HK2.out, by rw [HLZ.out]; exact HO3.out, HRU.out, fun s0 r hz hy => ?_⟩
                exact absurd (HGH.out s0 r hz hy).2.2.2 hy0
      · have haL : a = ys.length := by omega
        subst haL
        have ix := fun (A' : Option Addr) (c' : Nat) => indexByte_none A' c' wr
        have IX := Aside0.mk ix
        clear ix
        have h00 : ys.length - ys.length = 0 := Nat.sub_self _
        go_wp2_with (go_at_call 152; refine (IX.out _ _).mono ?_; rintro e w1 ⟨rfl, hw⟩; replace hw := hw.symm; subst hw)
        all_goals go_ret2
        all_goals refine ⟨_, _, rfl, HU.out, (fun h => absurd h (by decide)), v, outs, HK.out, HO.out, HRO.out, fun s0 r hz hy => ?_⟩
        all_goals
          obtain ⟨q1, _⟩ := HB.out s0 r hz hy
          have h2 := congrArg List.length hy
          rw [List.length_append, List.length_append, sb_len] at h2
          simp at h2
          omega
set_option maxHeartbeats 4000000 in
set_option maxRecDepth 100000 in
theorem rbytes_calls {W : World} {b g : Nat} {ys : List Int} (hR : Rd W b g ys) :
    Calls Tryz.prog 115 #[.pointer (some ⟨g, 0, none⟩)] W fun e w' => ∃ (A : Option Addr) (c : Nat) (outs : List Int) (f : Int) (ys' : List Int), e = .returned (.tuple #[.slice A outs.length c, .int .i64 f]) ∧ RowAt w' A outs ∧ RdOk outs ∧ Rd w' b g ys' ∧ Only (fun j => j = g) W w' ∧ ∀ (s0 : ByteArray) (r : List Int), NoZ s0 → ys = sb s0 ++ [0, 0] ++ r → outs = sb s0 ∧ f = 0 ∧ ys' = r := by
  have eg : ∀ args w, (callFunc 151 args).run Tryz.prog w = .ok (.enter 151 args) w := enters_of Tryz.func151 (by kernel_rfl) rfl
  have hlt := hR.lt
  have q1 := hR.1
  have q2 := hR.2.1
  have TK := Aside0.mk (fun (W1 : World) (hb : Below W.heap.size W W1) (hcell : W1.heap[W.heap.size]? = some (.cells #[.slice none 0 0] 62 (0, 0))) =>
    take_calls 151 W.heap.size #[.pointer (some ⟨W.heap.size, 0, none⟩)] eg (hR.below hb) hlt.2 (BPost W1 W.heap.size ys)
      (fun k f w1 v _ q => by
        obtain ⟨v1, outs, h1, h2, h3⟩ := q
        have hsz := blk_lt hcell
        exact ⟨v1, outs, (Below.heap_setCell w1 ⟨g, 1, none⟩ v W.heap.size (by show W.heap.size ≠ g; omega)).trans h1, own_move h2 (fun k hk => Below.heap_setCell w1 ⟨g, 1, none⟩ v k (by have := own_base h2 k hk; show k ≠ g; omega)), h3⟩)
      (fun A c W2 _ he hA hc hfar => by
        have hl := bytes_lit A c W.heap.size ys W2 (fun i hi => by
          obtain ⟨ad, e, hx⟩ := hA i hi
          exact ⟨ad, e, cell_heap hx (by rw [he])⟩) q1 q2 hc (by rw [he]; exact hcell) (fun ad e => by
          have := hfar ad e
          omega)
        unfold BPost at hl
        rw [he] at hl
        exact hl))
  clear hR eg q1 q2
  go_enter Tryz.func115, Tryz.ntmps115
  go_wp2_with (go_at_call 116; refine (TK.out _ (by first | exact below_alloc (Below.refl _ _) _ | exact below_drew1 (below_alloc (Below.refl _ _) _)) (by exact heap_alloc_new W _)).mono ?_; rintro e w1 ⟨k, f, rfl, ho, ⟨v, outs, hn, hw, hro, hv⟩, hy, hz⟩; obtain ⟨A1, c1, e⟩ := own_slice hw; subst e; have HRO := Aside0.mk hro; have HO := Aside0.mk ho; have HN := Aside0.mk hn; have HV := Aside0.mk hv; have HY := Aside0.mk hy; have HZ := Aside0.mk hz; have HW := Aside0.mk hw; have d0 : w1.cell? ⟨W.heap.size, 0, none⟩ = some (.slice A1 outs.length c1) := (by simp [World.cell?, hn]); have df : ∀ j, w1.frozen? ⟨W.heap.size, j, none⟩ = false := (fun j => by simp [World.frozen?, hn]); clear ho hn hv hy hz hw hro; by_cases hf : f = 0; (subst hf))
  · have dz : (w1.setCell ⟨W.heap.size, 0, none⟩ (.slice A1 outs.length c1)).cell? ⟨W.heap.size, 0, none⟩ = some (.slice A1 outs.length c1) := World.cell?_setCell_same _ _ _ d0
    (try simp only [Exit.inBlock, Exit.then])
    refine bodyPost_ret (v := .tuple #[.slice A1 outs.length c1, .int .i64 0]) (by rw [results_cell_tmp rfl]; go_simp) rfl ?_
    have hS : Only (fun j => j = W.heap.size) w1 (w1.setCell ⟨W.heap.size, 0, none⟩ (.slice A1 outs.length c1)) := (Only.of_below (S := fun j => j = W.heap.size) (Below.refl _ _)).setCell W.heap.size 0 rfl _
    have hW : Only (fun j => j = g) W (w1.setCell ⟨W.heap.size, 0, none⟩ (.slice A1 outs.length c1)) := ((Only.of_below (below_alloc (Below.refl _ _) (.cells #[.slice none 0 0] 62 (0, 0)))).trans (HO.out.trans (hS.wide (fun _ _ q => .inr q)))).wide (fun j hj q => q.elim id (fun q => absurd hj (by omega)))
    obtain ⟨y1, y2⟩ := HY.out (by trivial)
    have hown := own_move (w1 := w1.setCell ⟨W.heap.size, 0, none⟩ (.slice A1 outs.length c1)) HW.out (fun k hk => Below.heap_setCell w1 ⟨W.heap.size, 0, none⟩ _ k (by have := own_base HW.out k hk; simp at this; show k ≠ W.heap.size; omega))
    obtain ⟨A2, c2, e, _, hC⟩ := own_bytes hown
    injection e with e1 e2 e3
    subst e1
    refine ⟨_, _, _, _, _, rfl, rowAt_of hC, HRO.out, y2.only hS (fun j hj q => by omega), hW, fun s0 r h1 h2 => ?_⟩
    obtain ⟨v1, v2, _⟩ := HV.out s0 r h1 h2
    subst h2
    subst v2
    exact ⟨v1, rfl, text_drop⟩
  · have dz : (w1.setCell ⟨W.heap.size, 0, none⟩ (.slice none 0 0)).cell? ⟨W.heap.size, 0, none⟩ = some (.slice none 0 0) := World.cell?_setCell_same _ _ _ d0
    (try simp only [Exit.inBlock, Exit.then])
    refine bodyPost_ret (v := .tuple #[.slice none 0 0, .int .i64 f]) (by rw [results_cell_tmp rfl]; go_simp) rfl ?_
    have hS : Only (fun j => j = W.heap.size) w1 (w1.setCell ⟨W.heap.size, 0, none⟩ (.slice none 0 0)) := (Only.of_below (S := fun j => j = W.heap.size) (Below.refl _ _)).setCell W.heap.size 0 rfl _
    have hW : Only (fun j => j = g) W (w1.setCell ⟨W.heap.size, 0, none⟩ (.slice none 0 0)) := ((Only.of_below (below_alloc (Below.refl _ _) (.cells #[.slice none 0 0] 62 (0, 0)))).trans (HO.out.trans (hS.wide (fun _ _ q => .inr q)))).wide (fun j hj q => q.elim id (fun q => absurd hj (by omega)))
    exact ⟨none, 0, [], f, _, rfl, fun i hi => absurd hi (by simp), fun i hi => absurd hi (by simp), (HZ.out hf).only hS (fun j hj q => by omega), hW, fun s0 r h1 h2 => absurd (HV.out s0 r h1 h2).2.2 hf⟩
def strOf (outs : List Int) : ByteArray := ⟨(Lib.bytesOf outs).toArray⟩
theorem strOf_sb (s : ByteArray) : strOf (sb s) = s := by
  unfold strOf
  rw [sb_back]
theorem str_conv (W : World) (A : Option Addr) (c : Nat) (outs : List Int) (hA : RowAt W A outs) (ho : RdOk outs) :
    (convert 62 9 (.slice A outs.length c)).run Tryz.prog W = .ok (.string (strOf outs)) W := by
  cases A with
  | none =>
    have h := hA.none
    subst h
    rw [run_convert_bytes_string W 62 9 5 none ([] : List Int).length c u62 Tryz.underlying5 Tryz.underlying9]
    rfl
  | some ad =>
    have hlen : (Lib.bytesOf outs).length = outs.length := by unfold Lib.bytesOf; rw [List.length_map]
    have h := run_convert_bytes_back (P := Tryz.prog) W 62 9 5 ad c (Lib.bytesOf outs) u62 Tryz.underlying5 Tryz.underlying9 (fun j hj => by
      rw [hlen] at hj
      rw [hA.bytes j hj]
      obtain ⟨h0, h1⟩ := ho j hj
      have hq : (Lib.bytesOf outs)[j]? = some (UInt8.ofNat (outs.getD j 0).toNat) := by
        unfold Lib.bytesOf
        rw [List.getElem?_map, List.getD_eq_getElem?_getD, List.getElem?_eq_getElem hj]
        rfl
      have hg := (List.getElem?_eq_some_iff.1 hq).2
      rw [hg]
      generalize outs.getD j 0 = x at h0 h1
      congr 2
      simp
      omega)
    rw [hlen] at h
    exact h
set_option maxHeartbeats 4000000 in
set_option maxRecDepth 100000 in
theorem rtext_calls {W : World} {b g : Nat} {ys : List Int} (hR : Rd W b g ys) :
    Calls Tryz.prog 74 #[.pointer (some ⟨g, 0, none⟩)] W fun e w' => ∃ (s : ByteArray) (f : Int) (ys' : List Int), e = .returned (.tuple #[.string s, .int .i64 f]) ∧ Rd w' b g ys' ∧ Only (fun j => j = g) W w' ∧ ∀ (s0 : ByteArray) (r : List Int), NoZ s0 → ys = sb s0 ++ [0, 0] ++ r → s = s0 ∧ f = 0 ∧ ys' = r := by
  have RB := Aside0.mk (rbytes_calls hR)
  clear hR
  go_enter Tryz.func74, Tryz.ntmps74
  go_wp2_with (go_at_call 115; refine RB.out.mono ?_; rintro e w1 ⟨A, c, outs, f, ys', rfl, h1, h2, h3, h4, h5⟩; have H3 := Aside0.mk h3; have H4 := Aside0.mk h4; have H5 := Aside0.mk h5; have hcv := str_conv w1 A c outs h1 h2; clear h1 h2 h3 h4 h5)
  go_ret2
  exact ⟨_, _, _, rfl, H3.out, H4.out, fun s0 r h1 h2 => by
    obtain ⟨v1, v2, v3⟩ := H5.out s0 r h1 h2
    exact ⟨by rw [v1, strOf_sb], v2, v3⟩⟩
end Go.Proofs.YtmeopdjdjmjngaaGreatDoor.Cod
