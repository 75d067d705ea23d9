/- schema.Parse, walked. -/
import Derived.Test.YtmeopdjdjmjngaaGreatDoorPureDef11
import Derived.Test.YtmeopdjdjmjngaaGreatDoorI5
set_option linter.unusedVariables false
set_option linter.unusedSimpArgs false
namespace Go.Proofs.YtmeopdjdjmjngaaGreatDoor.I
open Go.RowKit Go.Lib Go.Proofs.YtmeopdjdjmjngaaGreatDoorW.PrintWords Go.Proofs.YtmeopdjdjmjngaaGreatDoorW.PrintLast Go.Proofs.YtmeopdjdjmjngaaGreatDoorW.PrintMore Go.Proofs.YtmeopdjdjmjngaaGreatDoor.Cod
theorem enc_head (nm : ByteArray) (l : List AC) : enc nm l = sb nm ++ [0, 0] ++ ((128 + (l.length : Int)) :: encL l) := by
  unfold enc encH
  simp [List.append_assoc]
theorem encL_drop (l : List AC) (i : Nat) (h : i < l.length) : encL (l.drop i) = sb l[i].f0 ++ [0, 0] ++ ((128 + l[i].f1.f0) :: (128 + l[i].f1.f1) :: (if l[i].f2 then 129 else 128) :: encL (l.drop (i + 1))) := by
  rw [List.drop_eq_getElem_cons h]
  unfold encL
  rw [List.flatMap_cons]
  unfold encC
  simp [List.append_assoc]
def cC (c : AC) : List Value := [.string c.f0, .int .i64 c.f1.f0, .int .i64 c.f1.f1, .bool c.f2]
theorem kC (w : World) (c : AC) : k36.K w c (cC c) := ⟨[.string c.f0], [.int .i64 c.f1.f0, .int .i64 c.f1.f1, .bool c.f2], rfl, rfl, [.int .i64 c.f1.f0, .int .i64 c.f1.f1], [.bool c.f2], rfl, ⟨[.int .i64 c.f1.f0], [.int .i64 c.f1.f1], rfl, rfl, rfl⟩, rfl⟩
theorem reps_cols (w : World) (l : List AC) : ∀ n, n ≤ l.length → Reps (k36.K w) 4 (l.take n) ((l.take n).flatMap cC) := by
  intro n
  induction n with
  | zero => intro _; rw [List.take_zero]; exact Reps.none _ _
  | succ n ih =>
    intro h
    rw [List.take_succ_eq_append_getElem (show n < l.length by omega), List.flatMap_append]
    have := (ih (by omega)).snoc (kC w l[n]) (c := cC l[n]) rfl
    simpa using this
theorem own_cols {w : World} {base : Nat} {v : Value} {l : List AC} (h : w.ownsRow base 36 4 v l.length (l.flatMap cC)) : ∃ A c, v = .slice A l.length c ∧ l.length ≤ c ∧ Kd.C k36 w A l.length l := by
  have hr := reps_cols w l l.length (Nat.le_refl _)
  rw [List.take_length] at hr
  obtain ⟨A, c, rfl, hq⟩ := own_reads_row h hr rfl
  refine ⟨A, c, rfl, ?_, hq⟩
  rcases h.2 with ⟨q, q0⟩ | ⟨g, cap, cur, q, _, _, hn, _⟩
  · injection q with _ q1 q2; omega
  · injection q with _ _ q2; omega
set_option maxHeartbeats 8000000 in
set_option maxRecDepth 100000 in
theorem parse_yes (nm : ByteArray) (cols : List AC) (A : Option Addr) (c : Nat) (raw : List Int) (W : World) (hA : Kd.C (Kd.int .u8) W A raw.length raw) (hc : raw.length ≤ c) (hr : RdOk raw) (hlen : raw.length ≤ 140737488355328) (hchk : schema_Check.f nm cols = some 0) (he : raw = enc nm cols) :
    Calls Tryz.prog 38 #[.slice A raw.length c] W fun e w' => ∃ A' c', e = .returned (.tuple #[.agg #[.string nm, .slice A' cols.length c'], .int .i64 0]) ∧ cols.length ≤ c' ∧ Kd.C k36 w' A' cols.length cols ∧ Below W.heap.size W w' := by
  have hu24 := Tryz.underlying24
  have hu36 := Tryz.underlying36
  have hu34 := Tryz.underlying34
  have hu22 := Tryz.underlying22
  obtain ⟨i0, hi0, hz0, hzs, hzb⟩ := info_parts info36
  have hok := Check_ok nm cols hchk
  have hl32 : cols.length ≤ 32 := hok.2.2.1
  have NR := Aside0.mk (fun (W1 : World) (hb : Below W.heap.size W W1) => newReader_calls A c raw W1 (rowAt_of (Kd.C_below hA hb)) hr hlen)
  have HB0 := Aside0.mk (below_alloc (Below.refl W.heap.size W) (.cells #[.string (⟨#[]⟩ : ByteArray), .slice none 0 0] 24))
  have HK0 := Aside0.mk (heap_alloc_new W (.cells #[.string (⟨#[]⟩ : ByteArray), .slice none 0 0] 24))
  have HOK := Aside0.mk hok
  have HE := Aside0.mk he
  have HA := Aside0.mk hA
  have HC := Aside0.mk hc
  have CHK := Aside0.mk hchk
  clear hA hc hr hlen hok he hchk
  go_enter Tryz.func38, Tryz.ntmps38
  go_wp2_with (first
    | (go_at_call 73; refine (NR.out _ HB0.out).mono ?_; rintro e w1 ⟨g, rfl, hg, hrd, hb⟩; have HG1 := Aside0.mk hg; have HR1 := Aside0.mk hrd; have HB1 := Aside0.mk (HB0.out.trans (hb.mono HB0.out.size)); have HK1 := Aside0.mk ((hb.block W.heap.size (blk_lt HK0.out)).trans HK0.out); clear hg hrd hb)
    | (go_at_call 74; refine (rtext_calls HR1.out).mono ?_; rintro e w2 ⟨s, f, ys, rfl, hrd, ho, hv⟩; obtain ⟨q1, q2, q3⟩ := hv nm _ HOK.out.2.1 (HE.out.trans (enc_head nm cols)); subst q1; subst q2; subst q3; have HR2 := Aside0.mk hrd; have HO2 := Aside0.mk ho; clear hrd ho hv)
    | (go_at_call 75; refine (rint_calls HR2.out).mono ?_; rintro e w3 ⟨n, f, ys, rfl, hrd, ho, hv⟩; obtain ⟨q1, q2, q3⟩ := hv _ _ rfl (by omega) (by omega); replace q1 : n = (cols.length : Int) := by { omega }; subst q1; subst q2; subst q3; have HR3 := Aside0.mk hrd; have HO3 := Aside0.mk (HO2.out.trans ho); clear hrd ho hv))
  have hgb := HR1.out.lt
  have HGB := Aside0.mk (show g < w1.heap.size ∧ w1.heap.size ≤ w3.heap.size ∧ W.heap.size < g from ⟨hgb.1, HO3.out.size, by have := HG1.out; simp at this; omega⟩)
  have HB3 := Aside0.mk (HB1.out.trans (HO3.out.below (base := W.heap.size) (fun k q => by have := HGB.out; omega) HB1.out.size))
  have HK3 := Aside0.mk ((HO3.out.block W.heap.size (blk_lt HK1.out) (by have := HG1.out; simp at this; omega)).trans HK1.out)
  have HD3 := Aside0.mk (heap_alloc_new w3 (.cells #[.string s, .slice none 0 0] 24))
  obtain ⟨D, hD⟩ : ∃ D, D = w3.heap.size := ⟨_, rfl⟩
  have HR4 := Aside0.mk (HR3.out.below (below_alloc (Below.refl _ _) (.cells #[.string s, .slice none 0 0] 24)))
  have HB4 := Aside0.mk (below_alloc HB3.out (.cells #[.string s, .slice none 0 0] 24))
  have HK4 := Aside0.mk ((heap_alloc_old w3 (.cells #[.string s, .slice none 0 0] 24) (blk_lt HK3.out)).trans HK3.out)
  have HSZ := Aside0.mk (show (w3.alloc (.cells #[.string s, .slice none 0 0] 24)).heap.size = w3.heap.size + 1 by simp)
  rw [← hD] at HD3 HGB HSZ ⊢
  generalize hbb : w1.heap.size = bb at HR4 HGB hgb
  clear hD hbb HR1 HR2 HR3 HO2 HO3 HB3 HK3 HK1
  generalize w3.alloc (.cells #[.string s, .slice none 0 0] 24) = w4 at HR4 HB4 HK4 HD3 HSZ ⊢
  go_loopg [50] (cols.length + 1) (fun kq v50 w' => ∃ (i : Nat) (v : Value), v50 = .int .i64 (i : Int) ∧ Aside0 (i + kq = cols.length + 1 ∧ i ≤ cols.length) ∧ Aside0 (Rd w' bb g (encL (cols.drop i))) ∧ Aside0 (w'.heap[D]? = some (.cells #[.string s, v] 24 (0, 0))) ∧ Aside0 (w'.ownsRow (D + 1) 36 4 v i ((cols.take i).flatMap cC)) ∧ Aside0 (Below W.heap.size W w') ∧ Aside0 (w'.heap[W.heap.size]? = some (.cells #[.string (⟨#[]⟩ : ByteArray), .slice none 0 0] 24 (0, 0))) ∧ Aside0 (D + 1 ≤ w'.heap.size))
  case atStart => exact ⟨0, _, rfl, ⟨⟨by omega, by omega⟩⟩, HR4, HD3, ⟨own_nil _ _ _ _⟩, HB4, HK4, ⟨Nat.le_of_eq HSZ.out.symm⟩⟩
  case round =>
    obtain ⟨i, v, rfl, HI, HRr, HDr, HOr, HBr, HKr, HLr⟩ := hrel
    cases gk with
    | zero => exact absurd HI.out (by omega)
    | succ k1 =>
      rcases Nat.lt_or_ge i cols.length with cI | cI
      · have c0 : decide ((i : Int) < (cols.length : Int)) = true := decide_eq_true (by omega)
        have hcol := HOK.out.2.2.2 _ (List.getElem_mem cI)
        have hen := encL_drop cols i cI
        have HT := Aside0.mk (show (cols.take (i + 1)).flatMap cC = (cols.take i).flatMap cC ++ cC cols[i] by rw [List.take_succ_eq_append_getElem cI, List.flatMap_append]; simp)
        generalize cols[i] = cc at hcol hen HT
        obtain ⟨cn, ⟨ct0, ct1⟩, nn⟩ := cc
        rw [hen] at HRr
        obtain ⟨q1, q2, ⟨q3, q4⟩, q5, q6⟩ := hcol
        have HNZ := Aside0.mk (show NoZ cn from q2)
        replace q3 : 0 ≤ ct0 := q3
        replace q4 : ct0 < 120 := q4
        replace q5 : 0 ≤ ct1 := q5
        replace q6 : ct1 < 120 := q6
        replace HT : Aside0 ((cols.take (i + 1)).flatMap cC = (cols.take i).flatMap cC ++ [.string cn, .int .i64 ct0, .int .i64 ct1, .bool nn]) := HT
        replace HRr : Aside0 (Rd wr bb g (sb cn ++ [0, 0] ++ ((128 + ct0) :: (128 + ct1) :: (if nn then 129 else 128) :: encL (cols.drop (i + 1))))) := HRr
        clear hen q1 q2
        obtain ⟨Av, cv, e⟩ := own_slice HOr.out
        subst e
        obtain ⟨tl, htl⟩ : ∃ tl, tl = encL (cols.drop (i + 1)) := ⟨_, rfl⟩
        rw [← htl] at HRr
        have HTL := Aside0.mk htl
        clear htl
        go_wp2_with (first
          | (go_at_call 74; refine (rtext_calls HRr.out).mono ?_; rintro e w5 ⟨s5, f, ys, rfl, hrd, ho, hv⟩; obtain ⟨z1, z2, z3⟩ := hv cn _ HNZ.out rfl; replace z1 := z1.symm; subst z1; subst z2; subst z3; have HR5 := Aside0.mk hrd; have HO5 := Aside0.mk ho; clear hrd ho hv)
          | (go_at_call 75; refine (rint_calls HR5.out).mono ?_; rintro e w6 ⟨n, f, ys, rfl, hrd, ho, hv⟩; obtain ⟨z1, z2, z3⟩ := hv _ _ rfl (by omega) (by omega); replace z1 : ct0 = n := by { omega }; subst z1; subst z2; subst z3; have HR6 := Aside0.mk hrd; have HO6 := Aside0.mk (HO5.out.trans ho); clear hrd ho hv HR5)
          | (go_at_call 75; refine (rint_calls HR6.out).mono ?_; rintro e w7 ⟨n, f, ys, rfl, hrd, ho, hv⟩; obtain ⟨z1, z2, z3⟩ := hv _ _ rfl (by omega) (by omega); replace z1 : ct1 = n := by { omega }; subst z1; subst z2; subst z3; have HR7 := Aside0.mk hrd; have HO7 := Aside0.mk (HO6.out.trans ho); clear hrd ho hv HR6)
          | (go_at_call 76; refine (rflag_calls HR7.out).mono ?_; rintro e w8 ⟨n, f, ys, rfl, hrd, ho, hv⟩; obtain ⟨z1, z2, z3⟩ := hv _ _ rfl (by cases nn <;> simp); replace z1 : nn = n := by { rw [z1]; cases nn <;> decide }; subst z1; subst z2; subst z3; have HR8 := Aside0.mk hrd; have HO8 := Aside0.mk (HO7.out.trans ho); have HD8 := Aside0.mk ((HO8.out.block D (blk_lt HDr.out) (by have := HGB.out; omega)).trans HDr.out); obtain ⟨d0, d1, df⟩ := d36_facts HD8.out; have HOa := Aside0.mk (show (w8.alloc (.cells #[.string cn, .int .i64 ct0, .int .i64 ct1, .bool nn] 36)).ownsRow (D + 1) 36 4 (.slice Av i cv) i ((cols.take i).flatMap cC) from own_move HOr.out (fun k hk => (heap_alloc_old _ _ (Nat.lt_of_lt_of_le (own_lt HOr.out k hk) HO8.out.size)).trans (HO8.out.block k (own_lt HOr.out k hk) (by have := own_base HOr.out k hk; have := HGB.out; omega)))); clear hrd ho hv)
          | (at_builtin; refine wpList_append_own _ rfl _ _ 22 rfl (D + 1) 36 i0 (.agg #[(.string ⟨#[]⟩), (.int .i64 0), (.int .i64 0), (.bool false)]) 4 40 hu22 hi0 hz0 hzs hzb rfl (by decide) _ _ _ rfl HOa.out ⟨w8.heap.size, 0, none⟩ 1 1 [.string cn, .int .i64 ct0, .int .i64 ct1, .bool nn] rfl ?qc1 ?qc2 ?qc3 ?qc4 ?qc5 ?qc6 ?_))
        case qc1 => rfl
        case qc2 =>
          intro j u hj
          rw [Addr.add_lit, Nat.zero_add]
          have hn := heap_alloc_new w8 (.cells #[.string cn, .int .i64 ct0, .int .i64 ct1, .bool nn] 36)
          unfold World.cell?
          rw [hn]
          rw [← hj]
          show (#[Value.string cn, .int .i64 ct0, .int .i64 ct1, .bool nn] : Array Value)[j]? = _
          simp
        case qc3 =>
          intro u hu
          simp at hu
          rcases hu with rfl | rfl | rfl | rfl <;> rfl
        case qc4 => unfold maxLen; omega
        case qc5 => omega
        case qc6 => have := HLr.out; have := HO8.out.size; simp; omega
        intro v9 w9 hown hgrow _
        have hOa : Only (fun k => D ≤ k) w8 w9 := ⟨hgrow.os, hgrow.tape, hgrow.output, by have := hgrow.size; simp at this; omega, fun k hk hne => (hgrow.block k (by simp; omega) (fun q => by have := own_base HOa.out k q.symm; omega)).trans (heap_alloc_old _ _ hk)⟩
        have hD9 : w9.heap[D]? = some (.cells #[.string s, .slice Av i cv] 24 (0, 0)) := (hgrow.block D (by have := blk_lt HD8.out; simp; omega) (fun q => by have := own_base HOa.out D q.symm; omega)).trans ((heap_alloc_old _ _ (blk_lt HD8.out)).trans HD8.out)
        obtain ⟨A9, c9, e⟩ := own_slice hown
        subst e
        have hO10 : Only (fun k => D ≤ k) w8 (w9.setCell ⟨D, 1, none⟩ (.slice A9 (i + 1) c9)) := hOa.setCell D 1 (Nat.le_refl _) _
        have hW10 : Only (fun k => k = g ∨ D ≤ k) wr (w9.setCell ⟨D, 1, none⟩ (.slice A9 (i + 1) c9)) := (HO8.out.wide (fun _ _ q => .inl q)).trans (hO10.wide (fun _ _ q => .inr q))
        have HR10 := Aside0.mk (HR8.out.only hO10 (fun k hk q => by have := HGB.out; have : D ≤ k := q; omega))
        have HB10 := Aside0.mk (HBr.out.trans (hW10.below (base := W.heap.size) (fun k q => by have := HGB.out; omega) HBr.out.size))
        have HK10 := Aside0.mk ((hW10.block W.heap.size (blk_lt HKr.out) (by have := HGB.out; omega)).trans HKr.out)
        have HD10 := Aside0.mk (blk_set hD9 1 (.slice A9 (i + 1) c9))
        have HO10 := Aside0.mk (own_move (w1 := w9.setCell ⟨D, 1, none⟩ (.slice A9 (i + 1) c9)) hown (fun k hk => Below.heap_setCell w9 ⟨D, 1, none⟩ _ k (by have := own_base hown k hk; show k ≠ D; omega)))
        have HL10 := Aside0.mk (show D + 1 ≤ (w9.setCell ⟨D, 1, none⟩ (.slice A9 (i + 1) c9)).heap.size from Nat.le_trans HLr.out hW10.size)
        rw [← HT.out] at HO10
        obtain ⟨x0, x1, xf⟩ := d36_facts hD9
        have HW64 := Aside0.mk (show wrap64 ((i : Int) + 1) = ((i + 1 : Nat) : Int) by unfold wrap64; omega)
        clear hOa hD9 hown hgrow hO10 hW10 d0 d1 df HT
        go_wp2
        go_roundg k1
        case measure => omega
        case rel => exact ⟨i + 1, _, by first | rw [HW64.out] | rfl, ⟨by have := HI.out; exact ⟨by omega, by omega⟩⟩, ⟨by rw [← HTL.out]; exact HR10.out⟩, HD10, HO10, HB10, HK10, HL10⟩
      · have hI : i = cols.length := by have := HI.out; omega
        subst hI
        have c0 : decide ((cols.length : Int) < (cols.length : Int)) = false := decide_eq_false (by omega)
        have ho := HOr.out
        rw [List.take_length] at ho
        obtain ⟨Av, cv, e, hcv, hC⟩ := own_cols ho
        subst e
        have BY := Aside0.mk (fun (W1 : World) (hb : Below wr.heap.size wr W1) => bytes_yes s Av cv cols W1 (Kd.C_below hC hb) hcv CHK.out HOK.out)
        have HCr := Aside0.mk hC
        have HCV := Aside0.mk hcv
        obtain ⟨d0, d1, df⟩ := d36_facts HDr.out
        obtain ⟨k0, k1', kf⟩ := d36_facts HKr.out
        have HBW := Aside0.mk (Below.refl wr.heap.size wr)
        have HOC := Aside0.mk ho
        clear ho hC hcv
        go_wp2_with (first
          | (go_at_call 36; refine (BY.out _ HBW.out).mono ?_; rintro x w5 ⟨v5, rfl, ho, hb⟩; obtain ⟨A5, c5, e5, hc5, hC5⟩ := own_bytes ho; subst e5; have HB5 := Aside0.mk hb; have HC5 := Aside0.mk hc5; have HR5 := Aside0.mk hC5; clear ho hb hc5 hC5)
          | (go_at_call 40; refine (bytes_Equal.calls A5 c5 (enc s cols) A c raw true w5 HR5.out HC5.out (Kd.C_below HA.out (HBr.out.trans (HB5.out.mono HBr.out.size))) HC.out (by rw [← HE.out]; unfold bytes_Equal.f; simp)).mono ?_; rintro x w6 ⟨rfl, hb⟩; have HB6 := Aside0.mk (HB5.out.trans (hb.below.mono HB5.out.size)); have HK6 := Aside0.mk ((HB6.out.block W.heap.size (blk_lt HKr.out)).trans HKr.out); have HD6 := Aside0.mk ((HB6.out.block D (blk_lt HDr.out)).trans HDr.out); obtain ⟨x0, x1, xf⟩ := d36_facts HD6.out; obtain ⟨y0, y1, yf⟩ := d36_facts HK6.out; clear hb))
        have hF : ((w6.setCell ⟨W.heap.size, 0, none⟩ (.string s)).setCell ⟨W.heap.size, 1, none⟩ (.slice Av cols.length cv)).heap[W.heap.size]? = some (.cells #[.string s, .slice Av cols.length cv] 24 (0, 0)) := blk_set (blk_set HK6.out 0 (.string s)) 1 (.slice Av cols.length cv)
        have HBF := Aside0.mk ((((HBr.out.trans (HB6.out.mono HBr.out.size)).setCell (p := ⟨W.heap.size, 0, none⟩) (Nat.le_refl _) (.string s))).setCell (p := ⟨W.heap.size, 1, none⟩) (Nat.le_refl _) (.slice Av cols.length cv))
        have HOF := own_move (w1 := (w6.setCell ⟨W.heap.size, 0, none⟩ (.string s)).setCell ⟨W.heap.size, 1, none⟩ (.slice Av cols.length cv)) HOC.out (fun k hk => by
          have h1 := own_base HOC.out k hk
          have h2 := HGB.out
          rw [Below.heap_setCell _ ⟨W.heap.size, 1, none⟩ _ k (by show k ≠ W.heap.size; omega), Below.heap_setCell _ ⟨W.heap.size, 0, none⟩ _ k (by show k ≠ W.heap.size; omega)]
          exact HB6.out.block k (own_lt HOC.out k hk))
        obtain ⟨AF, cF, eF, hcF, hCF⟩ := own_cols HOF
        injection eF with e1 e2 e3
        subst e1
        subst e3
        have HQF := Aside0.mk hCF
        obtain ⟨f0, f1, ff⟩ := d36_facts hF
        clear hF HOF hCF x0 x1 xf y0 y1 yf d0 d1 df k0 k1' kf
        (try simp only [Exit.inBlock, Exit.then])
        refine bodyPost_ret (v := .tuple #[.agg #[.string s, .slice Av cols.length cv], .int .i64 0]) (by rw [results_cell_tmp rfl]; go_simp) rfl ?_
        exact ⟨Av, cv, rfl, HCV.out, HQF.out, HBF.out⟩
end Go.Proofs.YtmeopdjdjmjngaaGreatDoor.I
