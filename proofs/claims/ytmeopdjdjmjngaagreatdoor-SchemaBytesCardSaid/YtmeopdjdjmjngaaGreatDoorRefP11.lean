/- the reference's schema.Parse, walked. -/
import Derived.Test.YtmeopdjdjmjngaaGreatDoorRefB11
import Derived.Test.YtmeopdjdjmjngaaGreatDoorCodN11
import Derived.Test.YtmeopdjdjmjngaaGreatDoorI5
set_option linter.unusedVariables false
set_option linter.unusedSimpArgs false
namespace Go.Proofs.YtmeopdjdjmjngaaGreatDoor.I
open Go.RowKit Go.Lib Go.Proofs.YtmeopdjdjmjngaaGreatDoorW.PrintWords Go.Proofs.YtmeopdjdjmjngaaGreatDoorW.PrintLast Go.Proofs.YtmeopdjdjmjngaaGreatDoorW.PrintMore Go.Proofs.YtmeopdjdjmjngaaGreatDoor.Cod
theorem type_nine (a b : Int) (h : value_CheckType.f a b = some 0) : a ≤ 9 ∧ b ≤ 99 := by
  unfold value_CheckType.f value_scaled.f at h
  by_cases h1 : a < 1
  · rw [if_pos h1] at h; exact absurd h (by decide)
  · rw [if_neg h1] at h
    by_cases h2 : a > 5
    · rw [if_pos h2] at h; exact absurd h (by decide)
    · rw [if_neg h2] at h
      by_cases h3 : b ≥ 0
      · rw [if_pos h3, Option.bind_some] at h
        by_cases h4 : b ≤ 18
        · omega
        · rw [if_neg (by simpa using h4)] at h; exact absurd h (by decide)
      · rw [if_neg h3, Option.bind_some, if_neg (by decide)] at h; exact absurd h (by decide)
theorem Check_nine (nm : ByteArray) (l : List AC) (h : schema_Check.f nm l = some 0) : ∀ c ∈ l, c.f1.f0 ≤ 9 ∧ c.f1.f1 ≤ 99 := by
  unfold schema_Check.f at h
  by_cases h1 : l.length ≤ 4611686018427387904
  · rw [if_pos h1] at h
    by_cases h2 : schema_Check.nm nm = 0
    · rw [if_pos h2] at h
      by_cases h3 : (l.any fun x => schema_Check.nm x.f0 != 0) = true
      · rw [if_pos h3] at h; exact absurd h (by decide)
      · rw [if_neg h3] at h
        obtain ⟨t, ht, h⟩ := Option.bind_eq_some_iff.1 h
        have h := Option.some.inj h
        by_cases h4 : t = 0
        · subst h4
          exact fun c hc => type_nine _ _ (lp_ok l [] ht c hc)
        · rw [if_neg h4] at h
          exact absurd h h4
    · rw [if_neg h2] at h; exact absurd h (by decide)
  · rw [if_neg h1] at h; exact absurd h (by simp)
def PY (W : World) (nm : ByteArray) (cols : List AC) (e : Ending) (w' : World) : Prop := ∃ A' c', e = .returned (.tuple #[.agg #[.string nm, .slice A' cols.length c'], .int .i64 0]) ∧ cols.length ≤ c' ∧ Kd.C k36 w' A' cols.length cols ∧ Below W.heap.size W w'
set_option maxHeartbeats 8000000 in
set_option maxRecDepth 100000 in
theorem ref_parse_yes (kf : Nat) (nm : ByteArray) (cols : List AC) (A : Option Addr) (c : Nat) (raw : List Int) (W : World) (hA : Kd.C (Kd.int .u8) W A raw.length raw) (hc : raw.length ≤ c) (hr : RdOk raw) (hlen : raw.length ≤ 140737488355327) (hchk0 : schema_Check.f nm cols = some 0) (hchk : colonnaderef11_Check.f kf nm cols = some 0) (he : raw = enc nm cols) :
    Calls Tryz.prog 39 #[.slice A raw.length c] W (PY W nm cols) := by
  have hu24 := Tryz.underlying24
  have hu36 := Tryz.underlying36
  have hu34 := Tryz.underlying34
  have hu22 := Tryz.underlying22
  have hu108 := Tryz.underlying108
  obtain ⟨i0, hi0, hz0, hzs, hzb⟩ := info_parts info36
  have hok := Check_ok nm cols hchk0
  have hnine := Check_nine nm cols hchk0
  have hl32 : cols.length ≤ 32 := hok.2.2.1
  have HRA := Aside0.mk (rowAt_of hA)
  have HRR := Aside0.mk hr
  have HB0 := Aside0.mk (below_alloc (Below.refl W.heap.size W) (.cells #[.string (⟨#[]⟩ : ByteArray), .slice none 0 0] 24))
  have HK0 := Aside0.mk (heap_alloc_new W (.cells #[.string (⟨#[]⟩ : ByteArray), .slice none 0 0] 24))
  have HOK := Aside0.mk hok
  have HN9 := Aside0.mk hnine
  have HE := Aside0.mk he
  have HA := Aside0.mk hA
  have HC := Aside0.mk hc
  have CHK := Aside0.mk hchk
  have HLT := Aside0.mk (show ∀ ad, A = some ad → 0 < raw.length → ad.block < W.heap.size from fun ad e hp => by
    obtain ⟨ad', e', hc'⟩ := HRA.out 0 hp
    obtain rfl := Option.some.inj (e.symm.trans e')
    have := cell_lt hc'
    rwa [Cod.add_block] at this)
  have HB3 := Aside0.mk (below_alloc (below_alloc HB0.out (.cells #[.slice A raw.length c] 108)) (.cells #[.string (⟨#[]⟩ : ByteArray), .slice none 0 0] 24))
  have HR3 : Aside0 (RS (((W.alloc (.cells #[.string (⟨#[]⟩ : ByteArray), .slice none 0 0] 24)).alloc (.cells #[.slice A raw.length c] 108)).alloc (.cells #[.string (⟨#[]⟩ : ByteArray), .slice none 0 0] 24)) (W.heap.size + 1 + 1) (W.heap.size + 1) raw) := ⟨⟨hr, hlen, ⟨by omega, by simp⟩, A, c, by
    have h := heap_alloc_new (W.alloc (.cells #[.string (⟨#[]⟩ : ByteArray), .slice none 0 0] 24)) (.cells #[.slice A raw.length c] 108)
    have hz : (W.alloc (.cells #[.string (⟨#[]⟩ : ByteArray), .slice none 0 0] 24)).heap.size = W.heap.size + 1 := by simp
    rw [hz] at h
    exact (heap_alloc_old _ _ (blk_lt h)).trans h, HC.out, HRA.out.below HB3.out, fun ad e hp => by have := HLT.out ad e hp; omega⟩⟩
  have HD3 : Aside0 ((((W.alloc (.cells #[.string (⟨#[]⟩ : ByteArray), .slice none 0 0] 24)).alloc (.cells #[.slice A raw.length c] 108)).alloc (.cells #[.string (⟨#[]⟩ : ByteArray), .slice none 0 0] 24)).heap[W.heap.size + 1 + 1]? = some (.cells #[.string (⟨#[]⟩ : ByteArray), .slice none 0 0] 24 (0, 0))) := ⟨by
    have h := heap_alloc_new ((W.alloc (.cells #[.string (⟨#[]⟩ : ByteArray), .slice none 0 0] 24)).alloc (.cells #[.slice A raw.length c] 108)) (.cells #[.string (⟨#[]⟩ : ByteArray), .slice none 0 0] 24)
    have hz : ((W.alloc (.cells #[.string (⟨#[]⟩ : ByteArray), .slice none 0 0] 24)).alloc (.cells #[.slice A raw.length c] 108)).heap.size = W.heap.size + 1 + 1 := by simp
    rw [hz] at h
    exact h⟩
  have HK3 : Aside0 ((((W.alloc (.cells #[.string (⟨#[]⟩ : ByteArray), .slice none 0 0] 24)).alloc (.cells #[.slice A raw.length c] 108)).alloc (.cells #[.string (⟨#[]⟩ : ByteArray), .slice none 0 0] 24)).heap[W.heap.size]? = some (.cells #[.string (⟨#[]⟩ : ByteArray), .slice none 0 0] 24 (0, 0))) := ⟨(heap_alloc_old _ _ (by simp; omega)).trans ((heap_alloc_old _ _ (by simp)).trans HK0.out)⟩
  have HSZ := Aside0.mk (show (((W.alloc (.cells #[.string (⟨#[]⟩ : ByteArray), .slice none 0 0] 24)).alloc (.cells #[.slice A raw.length c] 108)).alloc (.cells #[.string (⟨#[]⟩ : ByteArray), .slice none 0 0] 24)).heap.size = W.heap.size + 1 + 1 + 1 by simp)
  clear hA hc hok he hchk hchk0 hnine hr hlen
  go_enter Tryz.func39, Tryz.ntmps39
  have c32 : decide ((cols.length : Int) ≤ 32) = true := decide_eq_true (by omega)
  have HGB0 := Aside0.mk (show W.heap.size < W.heap.size + 1 ∧ W.heap.size + 1 < W.heap.size + 1 + 1 by omega)
  go_wp2_with (first
    | (go_at_call 77; refine (r3bytes_calls HR3.out).mono ?_; rintro e w4 ⟨A4, c4, out, f, ys, rfl, hra, hng, hro, hol, hrs, ho, hv⟩; obtain ⟨z1, z2, z3⟩ := hv nm _ HOK.out.2.1 (HE.out.trans (enc_head nm cols)); subst z1; subst z2; subst z3; have HR4 := Aside0.mk hrs; have HRA4 := Aside0.mk hra; have HNG4 := Aside0.mk hng; have HRO4 := Aside0.mk hro; have HD4 := Aside0.mk ((ho.block (W.heap.size + 1 + 1) (by rw [HSZ.out]; omega) (by omega)).trans HD3.out); have HK4 := Aside0.mk ((ho.block W.heap.size (by rw [HSZ.out]; omega) (by omega)).trans HK3.out); have HB4 := Aside0.mk (HB3.out.trans (ho.below (base := W.heap.size) (fun k q => by omega) HB3.out.size)); have HS4 := Aside0.mk (show W.heap.size + 1 + 1 + 1 ≤ w4.heap.size from by have := ho.size; rw [HSZ.out] at this; exact this); clear hra hng hro hol hrs ho hv HR3 HD3 HK3 HB3 HSZ HLT; have HGB := HGB0; clear HGB0; generalize hD : W.heap.size + 1 + 1 = D at HR4 HD4 HS4 HGB ⊢; generalize hg : W.heap.size + 1 = g at HR4 HNG4 HGB ⊢; clear hD hg)
    | (go_at_call 78; refine (r3int_calls HR4.out).mono ?_; rintro e w5 ⟨n, f, ys, rfl, hrs, ho, hv⟩; obtain ⟨z1, z2, z3⟩ := hv _ _ rfl (by omega) (by omega); replace z1 : n = (cols.length : Int) := by { omega }; subst z1; subst z2; subst z3; have HR5 := Aside0.mk hrs; have hcv := str_conv w5 A4 c4 (sb nm) (HRA4.out.only ho (fun ad e _ q => HNG4.out ad e q)) HRO4.out; rw [strOf_sb] at hcv; have HD5 := Aside0.mk ((ho.block D (blk_lt HD4.out) (by have := HGB.out; omega)).trans HD4.out); have HK5 := Aside0.mk ((ho.block W.heap.size (blk_lt HK4.out) (by have := HGB.out; omega)).trans HK4.out); have HB5 := Aside0.mk (HB4.out.trans (ho.below (base := W.heap.size) (fun k q => by have := HGB.out; omega) HB4.out.size)); have HS5 := Aside0.mk (Nat.le_trans HS4.out ho.size); obtain ⟨d0, d1, df⟩ := d36_facts HD5.out; clear hrs ho hv HR4 HRA4 HNG4 HRO4 HD4 HK4 HB4 HS4))
  have HR6 := Aside0.mk (HR5.out.only ((Only.of_below (S := fun j => j = D) (Below.refl _ w5)).setCell D 0 rfl (.string nm)) (fun k hk q => by have hq : k = D := q; omega))
  have HD6 := Aside0.mk (blk_set HD5.out 0 (.string nm))
  have HB6 := Aside0.mk (HB5.out.setCell (p := ⟨D, 0, none⟩) (by have := HGB.out; show W.heap.size ≤ D; omega) (.string nm))
  have HK6 := Aside0.mk ((Below.heap_setCell w5 ⟨D, 0, none⟩ (.string nm) W.heap.size (by have := HGB.out; show W.heap.size ≠ D; omega)).trans HK5.out)
  have HS6 := Aside0.mk (show D + 1 ≤ (w5.setCell ⟨D, 0, none⟩ (.string nm)).heap.size by simpa using HS5.out)
  clear HR5 HD5 HB5 HK5 HS5 d0 d1 df hcv c32
  go_loopg [10, 11] (cols.length + 1) (fun kq v10 v11 w' => ∃ (i : Nat) (v : Value), v10 = .bool true ∧ v11 = .int .i64 (i : Int) ∧ Aside0 (i + kq = cols.length + 1 ∧ i ≤ cols.length) ∧ Aside0 (RS w' D g (encL (cols.drop i))) ∧ Aside0 (w'.heap[D]? = some (.cells #[.string nm, v] 24 (0, 0))) ∧ Aside0 (w'.ownsRow (D + 1) 36 4 v i ((cols.take i).flatMap cC)) ∧ Aside0 (Below W.heap.size W w') ∧ Aside0 (w'.heap[W.heap.size]? = some (.cells #[.string (⟨#[]⟩ : ByteArray), .slice none 0 0] 24 (0, 0))) ∧ Aside0 (D + 1 ≤ w'.heap.size))
  case atStart => exact ⟨0, _, rfl, rfl, ⟨⟨by omega, by omega⟩⟩, HR6, HD6, ⟨own_nil _ _ _ _⟩, HB6, HK6, HS6⟩
  case round =>
    obtain ⟨i, v, rfl, rfl, HI, HRr, HDr, HOr, HBr, HKr, HLr⟩ := hrel
    cases gk with
    | zero => exact absurd HI.out (by omega)
    | succ k1 =>
      rcases Nat.lt_or_ge i cols.length with cI | cI
      · have c0 : decide ((i : Int) < (cols.length : Int)) = true := decide_eq_true (by omega)
        have hcol := HOK.out.2.2.2 _ (List.getElem_mem cI)
        have hen := encL_drop cols i cI
        have hn9 := HN9.out _ (List.getElem_mem cI)
        have HT := Aside0.mk (show (cols.take (i + 1)).flatMap cC = (cols.take i).flatMap cC ++ cC cols[i] by rw [List.take_succ_eq_append_getElem cI, List.flatMap_append]; simp)
        generalize cols[i] = cc at hcol hen HT hn9
        obtain ⟨cn, ⟨ct0, ct1⟩, nn⟩ := cc
        rw [hen] at HRr
        obtain ⟨q1, q2, ⟨q3, q4⟩, q5, q6⟩ := hcol
        have HNZ := Aside0.mk (show NoZ cn from q2)
        replace q3 : 0 ≤ ct0 := q3
        replace q4 : ct0 < 120 := q4
        replace q5 : 0 ≤ ct1 := q5
        replace q6 : ct1 < 120 := q6
        replace HT : Aside0 ((cols.take (i + 1)).flatMap cC = (cols.take i).flatMap cC ++ [.string cn, .int .i64 ct0, .int .i64 ct1, .bool nn]) := HT
        replace HRr : Aside0 (RS wr D g (sb cn ++ [0, 0] ++ ((128 + ct0) :: (128 + ct1) :: (if nn then 129 else 128) :: encL (cols.drop (i + 1))))) := HRr
        clear hen q1 q2
        obtain ⟨q7, q8⟩ := hn9
        replace q7 : ct0 ≤ 9 := q7
        replace q8 : ct1 ≤ 99 := q8
        obtain ⟨Av, cv, e⟩ := own_slice HOr.out
        subst e
        obtain ⟨tl, htl⟩ : ∃ tl, tl = encL (cols.drop (i + 1)) := ⟨_, rfl⟩
        rw [← htl] at HRr
        have HTL := Aside0.mk htl
        clear htl
        go_wp2_with (first
          | (go_at_call 77; refine (r3bytes_calls HRr.out).mono ?_; rintro e w5 ⟨A5, c5, out, f, ys, rfl, hra, hng, hro, hol, hrs, ho, hv⟩; obtain ⟨z1, z2, z3⟩ := hv cn _ HNZ.out rfl; subst z1; subst z2; subst z3; have HR5 := Aside0.mk hrs; have HO5 := Aside0.mk ho; have HRA5 := Aside0.mk hra; have HNG5 := Aside0.mk hng; have HRO5 := Aside0.mk hro; clear hra hng hro hol hrs ho hv)
          | (go_at_call 78; refine (r3int_calls HR5.out).mono ?_; rintro e w6 ⟨n, f, ys, rfl, hrd, ho, hv⟩; obtain ⟨z1, z2, z3⟩ := hv _ _ rfl (by omega) (by omega); replace z1 : ct0 = n := by { omega }; subst z1; subst z2; subst z3; have HR6 := Aside0.mk hrd; have HO6 := Aside0.mk ho; clear hrd ho hv HR5)
          | (go_at_call 78; refine (r3int_calls HR6.out).mono ?_; rintro e w7 ⟨n, f, ys, rfl, hrd, ho, hv⟩; obtain ⟨z1, z2, z3⟩ := hv _ _ rfl (by omega) (by omega); replace z1 : ct1 = n := by { omega }; subst z1; subst z2; subst z3; have HR7 := Aside0.mk hrd; have HO7 := Aside0.mk (HO6.out.trans ho); clear hrd ho hv HR6)
          | (go_at_call 79; refine (r3flag_calls HR7.out).mono ?_; rintro e w8 ⟨n, f, ys, rfl, hrd, ho, hv⟩; obtain ⟨z1, z2, z3⟩ := hv _ _ rfl (by cases nn <;> simp); replace z1 : nn = n := by { rw [z1]; cases nn <;> decide }; subst z1; subst z2; subst z3; have HR8 := Aside0.mk hrd; have hcv := str_conv w8 A5 c5 (sb cn) (HRA5.out.only (HO7.out.trans ho) (fun ad e _ q => HNG5.out ad e q)) HRO5.out; rw [strOf_sb] at hcv; have HO8 := Aside0.mk ((HO5.out.trans HO7.out).trans ho); have HD8 := Aside0.mk ((HO8.out.block D (blk_lt HDr.out) (by have := HGB.out; omega)).trans HDr.out); obtain ⟨d0, d1, df⟩ := d36_facts HD8.out; have HOa := Aside0.mk (show (w8.alloc (.cells #[.string cn, .int .i64 ct0, .int .i64 ct1, .bool nn] 36)).ownsRow (D + 1) 36 4 (.slice Av i cv) i ((cols.take i).flatMap cC) from own_move HOr.out (fun k hk => (heap_alloc_old _ _ (Nat.lt_of_lt_of_le (own_lt HOr.out k hk) HO8.out.size)).trans (HO8.out.block k (own_lt HOr.out k hk) (by have := own_base HOr.out k hk; have := HGB.out; omega)))); clear hrd ho hv)
          | (at_builtin; refine wpList_append_own _ rfl _ _ 22 rfl (D + 1) 36 i0 (.agg #[(.string ⟨#[]⟩), (.int .i64 0), (.int .i64 0), (.bool false)]) 4 40 hu22 hi0 hz0 hzs hzb rfl (by decide) _ _ _ rfl HOa.out ⟨w8.heap.size, 0, none⟩ 1 1 [.string cn, .int .i64 ct0, .int .i64 ct1, .bool nn] rfl ?qc1 ?qc2 ?qc3 ?qc4 ?qc5 ?qc6 ?_))
        case qc1 => rfl
        case qc2 =>
          intro j u hj
          rw [Addr.add_lit, Nat.zero_add]
          have hn := heap_alloc_new w8 (.cells #[.string cn, .int .i64 ct0, .int .i64 ct1, .bool nn] 36)
          unfold World.cell?
          rw [hn]
          rw [← hj]
          show (#[Value.string cn, .int .i64 ct0, .int .i64 ct1, .bool nn] : Array Value)[j]? = _
          simp
        case qc3 =>
          intro u hu
          simp at hu
          rcases hu with rfl | rfl | rfl | rfl <;> rfl
        case qc4 => unfold maxLen; omega
        case qc5 => omega
        case qc6 => have := HLr.out; have := HO8.out.size; simp; omega
        intro v9 w9 hown hgrow _
        have hOa : Only (fun k => D ≤ k) w8 w9 := ⟨hgrow.os, hgrow.tape, hgrow.output, by have := hgrow.size; simp at this; omega, fun k hk hne => (hgrow.block k (by simp; omega) (fun q => by have := own_base HOa.out k q.symm; omega)).trans (heap_alloc_old _ _ hk)⟩
        have hD9 : w9.heap[D]? = some (.cells #[.string nm, .slice Av i cv] 24 (0, 0)) := (hgrow.block D (by have := blk_lt HD8.out; simp; omega) (fun q => by have := own_base HOa.out D q.symm; omega)).trans ((heap_alloc_old _ _ (blk_lt HD8.out)).trans HD8.out)
        obtain ⟨A9, c9, e⟩ := own_slice hown
        subst e
        have hO10 : Only (fun k => D ≤ k) w8 (w9.setCell ⟨D, 1, none⟩ (.slice A9 (i + 1) c9)) := hOa.setCell D 1 (Nat.le_refl _) _
        have hW10 : Only (fun k => k = g ∨ D ≤ k) wr (w9.setCell ⟨D, 1, none⟩ (.slice A9 (i + 1) c9)) := (HO8.out.wide (fun _ _ q => .inl q)).trans (hO10.wide (fun _ _ q => .inr q))
        have HR10 := Aside0.mk (HR8.out.only hO10 (fun k hk q => by have := HGB.out; have : D ≤ k := q; omega))
        have HB10 := Aside0.mk (HBr.out.trans (hW10.below (base := W.heap.size) (fun k q => by have := HGB.out; omega) HBr.out.size))
        have HK10 := Aside0.mk ((hW10.block W.heap.size (blk_lt HKr.out) (by have := HGB.out; omega)).trans HKr.out)
        have HD10 := Aside0.mk (blk_set hD9 1 (.slice A9 (i + 1) c9))
        have HO10 := Aside0.mk (own_move (w1 := w9.setCell ⟨D, 1, none⟩ (.slice A9 (i + 1) c9)) hown (fun k hk => Below.heap_setCell w9 ⟨D, 1, none⟩ _ k (by have := own_base hown k hk; show k ≠ D; omega)))
        have HL10 := Aside0.mk (show D + 1 ≤ (w9.setCell ⟨D, 1, none⟩ (.slice A9 (i + 1) c9)).heap.size from Nat.le_trans HLr.out hW10.size)
        rw [← HT.out] at HO10
        obtain ⟨x0, x1, xf⟩ := d36_facts hD9
        have HW64 := Aside0.mk (show wrap64 ((i : Int) + 1) = ((i + 1 : Nat) : Int) by unfold wrap64; omega)
        clear hOa hD9 hown hgrow hO10 hW10 d0 d1 df HT
        go_wp2
        go_roundg k1
        case measure => omega
        case rel => exact ⟨i + 1, _, rfl, by first | rw [HW64.out] | rfl, ⟨by have := HI.out; exact ⟨by omega, by omega⟩⟩, ⟨by rw [← HTL.out]; exact HR10.out⟩, HD10, HO10, HB10, HK10, HL10⟩
      · have hI : i = cols.length := by have := HI.out; omega
        subst hI
        have c0 : decide ((cols.length : Int) < (cols.length : Int)) = false := decide_eq_false (by omega)
        have ho := HOr.out
        rw [List.take_length] at ho
        obtain ⟨Av, cv, e, hcv, hC⟩ := own_cols ho
        subst e
        have BY := Aside0.mk (fun (W1 : World) (hb : Below wr.heap.size wr W1) => ref_bytes_yes kf nm Av cv cols W1 (Kd.C_below hC hb) hcv CHK.out HOK.out)
        have HCr := Aside0.mk hC
        have HCV := Aside0.mk hcv
        obtain ⟨d0, d1, df⟩ := d36_facts HDr.out
        obtain ⟨k0, k1', kfz⟩ := d36_facts HKr.out
        have HBW := Aside0.mk (Below.refl wr.heap.size wr)
        have HOC := Aside0.mk ho
        clear ho hC hcv
        go_wp2_with (go_at_call 37; refine (BY.out _ HBW.out).mono ?_; rintro x w6 ⟨v5, rfl, ho, hb⟩; obtain ⟨A5, c5, e5, hc5, hC5⟩ := own_bytes ho; subst e5; have HB6 := Aside0.mk hb; have cv1 : (convert 62 9 (.slice A5 (enc nm cols).length c5)).run Tryz.prog w6 = .ok (.string (strOf raw)) w6 := (by rw [HE.out]; exact str_conv w6 A5 c5 (enc nm cols) (rowAt_of hC5) (rdok_of (enc_range HOK.out))); have cv2 : (convert 62 9 (.slice A raw.length c)).run Tryz.prog w6 = .ok (.string (strOf raw)) w6 := str_conv w6 A c raw (HRA.out.below (HBr.out.trans (hb.mono HBr.out.size))) HRR.out; generalize strOf raw = sr at cv1 cv2; have HK6 := Aside0.mk ((HB6.out.block W.heap.size (blk_lt HKr.out)).trans HKr.out); have HD6 := Aside0.mk ((HB6.out.block D (blk_lt HDr.out)).trans HDr.out); clear d0 d1 df k0 k1' kfz; obtain ⟨x0, x1, xf⟩ := d36_facts HD6.out; obtain ⟨y0, y1, yf⟩ := d36_facts HK6.out; clear ho hb hc5 hC5)
        have hF : ((w6.setCell ⟨W.heap.size, 0, none⟩ (.string nm)).setCell ⟨W.heap.size, 1, none⟩ (.slice Av cols.length cv)).heap[W.heap.size]? = some (.cells #[.string nm, .slice Av cols.length cv] 24 (0, 0)) := blk_set (blk_set HK6.out 0 (.string nm)) 1 (.slice Av cols.length cv)
        have HBF := Aside0.mk ((((HBr.out.trans (HB6.out.mono HBr.out.size)).setCell (p := ⟨W.heap.size, 0, none⟩) (Nat.le_refl _) (.string nm))).setCell (p := ⟨W.heap.size, 1, none⟩) (Nat.le_refl _) (.slice Av cols.length cv))
        have HOF := own_move (w1 := (w6.setCell ⟨W.heap.size, 0, none⟩ (.string nm)).setCell ⟨W.heap.size, 1, none⟩ (.slice Av cols.length cv)) HOC.out (fun k hk => by
          have h1 := own_base HOC.out k hk
          have h2 := HGB.out
          rw [Below.heap_setCell _ ⟨W.heap.size, 1, none⟩ _ k (by show k ≠ W.heap.size; omega), Below.heap_setCell _ ⟨W.heap.size, 0, none⟩ _ k (by show k ≠ W.heap.size; omega)]
          exact HB6.out.block k (own_lt HOC.out k hk))
        obtain ⟨AF, cF, eF, hcF, hCF⟩ := own_cols HOF
        injection eF with e1 e2 e3
        subst e1
        subst e3
        have HQF := Aside0.mk hCF
        obtain ⟨f0, f1, ff⟩ := d36_facts hF
        clear hF HOF hCF x0 x1 xf y0 y1 yf
        (try simp only [Exit.inBlock, Exit.then])
        refine bodyPost_ret (v := .tuple #[.agg #[.string nm, .slice Av cols.length cv], .int .i64 0]) (by rw [results_cell_tmp rfl]; go_simp) rfl ?_
        exact ⟨Av, cv, rfl, HCV.out, HQF.out, HBF.out⟩
end Go.Proofs.YtmeopdjdjmjngaaGreatDoor.I
