/- the reference's schema.Bytes, walked. -/
import Derived.Test.YtmeopdjdjmjngaaGreatDoorRefR11
import Derived.Test.YtmeopdjdjmjngaaGreatDoorCodB11
import Derived.Test.YtmeopdjdjmjngaaGreatDoorI8
set_option linter.unusedVariables false
set_option linter.unusedSimpArgs false
namespace Go.Proofs.YtmeopdjdjmjngaaGreatDoor.I
open Go.RowKit Go.Lib Go.Proofs.YtmeopdjdjmjngaaGreatDoorW.PrintWords Go.Proofs.YtmeopdjdjmjngaaGreatDoorW.PrintLast Go.Proofs.YtmeopdjdjmjngaaGreatDoorW.PrintMore Go.Proofs.YtmeopdjdjmjngaaGreatDoor.Cod
theorem app_bytes {ops : Array Oper} {rest : List Oper} {o : Oper} {a : Act} {Q : Exit → Act → World → Prop} {w : World} (hgd : o.guard = none) (s x : Operand) (ho : o.op = .call { callee := .builtin .append, args := #[s, x], argTypes := #[62, 62] })
    (base : Nat) (hbase : base ≤ w.heap.size) (v : Value) (xs : List Int) (hs : a.eval s = v) (HO : w.ownsRow base 5 1 v xs.length (nums .u8 xs)) (ad : Addr) (c m : Nat) (ys : List Int) (hx : a.eval x = .slice (some ad) m c) (hm : m = ys.length) (HY : BytesAt w ad ys) (hfit : xs.length + ys.length ≤ 1048576)
    (h : ∀ v' w' zs, Aside0 (zs = xs ++ ys) → w'.ownsRow base 5 1 v' zs.length (nums .u8 zs) → Below base w w' → Keeps w w' → wpList Tryz.prog ops Q rest (a.put o.dst v') w') :
    wpList Tryz.prog ops Q (o :: rest) a w := by
  subst hm
  obtain ⟨i0, hi0, hz0, hzs, hzb⟩ := info_parts i5
  refine wpList_append_own w hgd s x 62 ho base 5 i0 (.int .u8 0) 1 1 u62 hi0 hz0 hzs hzb rfl (by decide) v xs.length (nums .u8 xs) hs HO ad ys.length c (nums .u8 ys) hx (by rw [nums_len]; omega) (at_cells HY) (nums_one ys) (by unfold maxLen; omega) (by omega) hbase ?_
  intro v' w' ho' hg _
  have e1 : nums .u8 xs ++ nums .u8 ys = nums .u8 (xs ++ ys) := by unfold nums; rw [List.map_append]
  rw [e1, ← List.length_append] at ho'
  refine h v' w' (xs ++ ys) ⟨rfl⟩ ho' ((Below.refl base w).grown hg hbase (fun k hk => own_base HO k hk)) ?_
  intro k cs t fr q0 q1 _
  refine (hg.block k (blk_lt q0) (fun q => ?_)).trans q0
  obtain ⟨cells, hq⟩ := own_typed HO k q.symm
  rw [q0] at hq
  injection hq with hq
  injection hq with _ hq
  exact q1 hq
theorem text3 (s : ByteArray) (hz : NoZ s) (hs : s.size ≤ 1000) (W : World) (n : Nat) (hn : W.heap.size = n) (cap : Nat) (hcap : s.size ≤ cap) (fr : Nat × Nat) : Calls Tryz.prog 71 #[.slice (some ⟨n, 0, none⟩) s.size cap] ((W.alloc (.cells (bytesRow s cap) 5 fr)).drew) fun e w' =>
    ∃ v zs, e = .returned v ∧ Aside0 (zs = sb s ++ [0, 0]) ∧ w'.ownsRow W.heap.size 5 1 v zs.length (nums .u8 zs) ∧ Below W.heap.size W w' := by
  subst hn
  have hC : Kd.C (Kd.int .u8) (W.drew.alloc (.cells (bytesRow s cap) 5 fr)) (some ⟨W.heap.size, 0, none⟩) (sb s).length (sb s) := C_of_row (BytesAt.row (new_bytes W.drew s cap fr)) (by rw [sb_len]; omega)
  have h := colonnaderef03_Bytes.calls 2000 (some ⟨W.heap.size, 0, none⟩) cap (sb s) _ _ hC (by rw [sb_len]; exact hcap) (by_text hz hs)
  rw [sb_len] at h
  show Calls _ _ _ (W.drew.alloc (.cells (bytesRow s cap) 5 fr)) _
  refine h.mono ?_
  rintro e w1 ⟨v, rfl, hR, hb⟩
  have hB := below_alloc (below_drew1 (Below.refl W.heap.size W)) (.cells (bytesRow s cap) 5 fr)
  exact ⟨v, _, rfl, ⟨rfl⟩, own_less (R_own hR) hB.size, hB.trans (hb.mono hB.size)⟩
theorem int3 (n : Int) (h0 : 0 ≤ n) (h1 : n < 120) (W : World) : Calls Tryz.prog 72 #[.int .i64 n] W fun e w' =>
    ∃ v, e = .returned v ∧ w'.ownsRow W.heap.size 5 1 v [128 + n].length (nums .u8 [128 + n]) ∧ Below W.heap.size W w' := by
  refine (colonnaderef03_Int.calls 10 n _ W (int_small n h0 h1 10)).mono ?_
  rintro e w1 ⟨v, rfl, hR, hb⟩
  exact ⟨v, rfl, R_own hR, hb⟩
theorem own_at {w : World} {base : Nat} {v : Value} {ys : List Int} (h : w.ownsRow base 5 1 v ys.length (nums .u8 ys)) (hp : 0 < ys.length) : ∃ ad c, v = .slice (some ad) ys.length c ∧ BytesAt w ad ys := by
  obtain ⟨A, c, rfl, _, hC⟩ := own_bytes h
  obtain ⟨ad, rfl, hx⟩ := bytesAt_of hC hp
  exact ⟨ad, c, rfl, hx⟩
set_option maxHeartbeats 8000000 in
set_option maxRecDepth 100000 in
theorem ref_bytes_no (k : Nat) (nm : ByteArray) (A1 : Option Addr) (c1 : Nat) (cols : List AC) (w : World) (hr1 : Kd.C k36 w A1 cols.length cols) (hc1 : cols.length ≤ c1) (r : Int) (hchk : colonnaderef11_Check.f k nm cols = some r) (h2 : ¬ (r = 0)) :
    Calls Tryz.prog 37 #[.agg #[.string nm, .slice A1 cols.length c1]] w fun e w' => e = .returned (.tuple #[.slice none 0 0, .int .i64 r]) ∧ Below w.heap.size w w' := by
  have hu24 := Tryz.underlying24
  have HB0 := Aside0.mk (below_alloc (Below.refl w.heap.size w) (.cells #[.string nm, .slice A1 cols.length c1] 24))
  have CHK := Aside0.mk (fun (W : World) (hb : Below w.heap.size w W) => colonnaderef11_Check.calls k nm A1 c1 cols r W (Kd.C_below hr1 hb) hc1 hchk)
  have hz : (r != 0) = true := by simpa using h2
  have hz2 : (r == 0) = false := by simpa using h2
  clear hr1 hchk h2
  go_enter Tryz.func37, Tryz.ntmps37
  go_wp2_with (go_at_call 26; refine (CHK.out _ HB0.out).mono ?_; rintro x w1 ⟨rfl, hb⟩; have HB1 := Aside0.mk (HB0.out.trans (hb.mono HB0.out.size)); clear hb)
  go_ret2
  exact ⟨rfl, HB1.out⟩
set_option maxHeartbeats 8000000 in
set_option maxRecDepth 100000 in
theorem ref_bytes_yes (k : Nat) (nm : ByteArray) (A1 : Option Addr) (c1 : Nat) (cols : List AC) (w : World) (hr1 : Kd.C k36 w A1 cols.length cols) (hc1 : cols.length ≤ c1) (hchk : colonnaderef11_Check.f k nm cols = some 0) (hok : DefOk nm cols) :
    Calls Tryz.prog 37 #[.agg #[.string nm, .slice A1 cols.length c1]] w fun e w' => ∃ v', e = .returned (.tuple #[v', .int .i64 0]) ∧ w'.ownsRow w.heap.size 5 1 v' (enc nm cols).length (nums .u8 (enc nm cols)) ∧ Below w.heap.size w w' := by
  have hu24 := Tryz.underlying24
  have hu36 := Tryz.underlying36
  have hu34 := Tryz.underlying34
  have hlen32 : cols.length ≤ 32 := hok.2.2.1
  have HB0 := Aside0.mk (below_alloc (Below.refl w.heap.size w) (.cells #[.string nm, .slice A1 cols.length c1] 24))
  have HK0 := Aside0.mk (heap_alloc_new w (.cells #[.string nm, .slice A1 cols.length c1] 24))
  have CHK := Aside0.mk (fun (W : World) (hb : Below w.heap.size w W) => colonnaderef11_Check.calls k nm A1 c1 cols 0 W (Kd.C_below hr1 hb) hc1 hchk)
  have kc := fun (W : World) => run_bytes_of_string (P := Tryz.prog) W 9 62 5 nm Tryz.underlying9 Tryz.underlying62 Tryz.underlying5
  have HR1 := Aside0.mk hr1
  have HOK := Aside0.mk hok
  clear hr1 hchk hok hc1
  go_enter Tryz.func37, Tryz.ntmps37
  go_wp2_with (first
    | (go_at_call 26; refine (CHK.out _ HB0.out).mono ?_; rintro x w1 ⟨rfl, hb⟩; have HB1 := Aside0.mk (HB0.out.trans (hb.mono HB0.out.size)); have HK1 := Aside0.mk ((hb.block w.heap.size (blk_lt HK0.out)).trans HK0.out); have HL1 := Aside0.mk (blk_lt HK1.out); obtain ⟨b0, b1, bf⟩ := d36_facts HK1.out; clear hb)
    | (go_at_call 71; refine (text3 nm HOK.out.2.1 (by have := HOK.out.1; omega) w1 _ rfl _ (grownCap_ge _ _ _ _) _).mono ?_; rintro x w2 ⟨v2, xs2, rfl, HE2, ho, hb⟩; have hl2 : xs2.length = nm.size + 2 := (by rw [HE2.out, List.length_append, sb_len]; rfl); have HLE2 := Aside0.mk hl2; clear hl2; obtain ⟨c2, A2, e2⟩ := own_slice ho; subst e2; have HO2 := Aside0.mk ho; have HD2 := Aside0.mk hb; have HK2 := Aside0.mk ((hb.block w.heap.size HL1.out).trans HK1.out); clear b0 b1 bf; obtain ⟨b0, b1, bf⟩ := d36_facts HK2.out; clear ho hb)
    | (go_at_call 72; refine (int3 (cols.length : Int) (by omega) (by omega) w2).mono ?_; rintro x w3 ⟨v3, rfl, ho, hb⟩; obtain ⟨ad3, c3, e3, hx3⟩ := own_at ho (by simp); subst e3; have HX3 := Aside0.mk hx3; have HO3 := Aside0.mk (own_move HO2.out (fun k hk => hb.block k (own_lt HO2.out k hk))); have HD3 := Aside0.mk (HD2.out.trans (hb.mono HD2.out.size)); have HK3 := Aside0.mk ((hb.block w.heap.size (blk_lt HK2.out)).trans HK2.out); clear b0 b1 bf; obtain ⟨b0, b1, bf⟩ := d36_facts HK3.out; clear ho hb hx3)
    | (at_builtin; refine app_bytes rfl _ _ rfl w1.heap.size HD3.out.size _ xs2 rfl HO3.out ad3 c3 _ [128 + (cols.length : Int)] rfl rfl HX3.out (by have := HOK.out.1; have := HLE2.out; simp only [List.length_cons, List.length_nil]; omega) ?_; intro v4 w4 xs4 HE4 ho hb hp; have HO4 := Aside0.mk ho; have HD4 := Aside0.mk (HD3.out.trans hb); have HK4 := Aside0.mk (hp _ _ _ _ HK3.out (by decide) (by decide)); clear b0 b1 bf; obtain ⟨b0, b1, bf⟩ := d36_facts HK4.out; clear ho hb hp))
  have HE4' := Aside0.mk (show xs4 = encH nm cols.length ++ encL (cols.take 0) by rw [HE4.out, HE2.out]; simp [encH, encL])
  clear b0 b1 bf kc
  go_loopg [5, 6] (cols.length + 1) (fun kq v5 v6 w' => ∃ (i : Nat) (v : Value) (xs : List Int), v5 = v ∧ v6 = .int .i64 (i : Int) ∧ Aside0 (i + kq = cols.length + 1 ∧ i ≤ cols.length) ∧ Aside0 (xs = encH nm cols.length ++ encL (cols.take i)) ∧ Aside0 (w'.ownsRow w1.heap.size 5 1 v xs.length (nums .u8 xs)) ∧ Aside0 (Below w1.heap.size w1 w'))
  case atStart => exact ⟨0, _, xs4, rfl, rfl, ⟨⟨by omega, by omega⟩⟩, HE4', HO4, HD4⟩
  case round =>
    obtain ⟨i, v, xs, rfl, rfl, HI, HE, HOr, HDr⟩ := hrel
    cases gk with
    | zero => exact absurd HI.out (by omega)
    | succ k1 =>
      have HKr := Aside0.mk ((HDr.out.block w.heap.size HL1.out).trans HK1.out)
      obtain ⟨b0, b1, bf⟩ := d36_facts HKr.out
      rcases Nat.lt_or_ge i cols.length with cI | cI
      · have c0 : decide ((i : Int) < (cols.length : Int)) = true := decide_eq_true (by omega)
        have HBr := Aside0.mk (HB1.out.trans (HDr.out.mono HB1.out.size))
        obtain ⟨adc, ec, k0, k1', k2', k3⟩ := at_T36 (Kd.C_below HR1.out HBr.out) (i : Int) (by omega) (by omega)
        rw [show ((i : Int).toNat) = i from rfl] at k0 k1' k2' k3
        have hcol := HOK.out.2.2.2 _ (List.getElem_mem cI)
        have hstep := encL_step cols i cI
        have hpre := pre_len HOK.out i
        rw [rdC_is cols i cI] at k0 k1' k2' k3
        generalize cols[i] = cc at k0 k1' k2' k3 hcol hstep
        obtain ⟨cn, ⟨ct0, ct1⟩, nn⟩ := cc
        cases ec
        have g0 := k0
        have g1 := k1'
        have g2 := k2'
        have g3 := k3
        clear k0 k1' k2' k3
        have HS := Aside0.mk (show encH nm cols.length ++ encL (cols.take (i + 1)) = xs ++ (sb cn ++ [0, 0]) ++ [128 + ct0] ++ [128 + ct1] ++ [if nn then 129 else 128] by rw [hstep, HE.out]; simp only [encC, List.append_assoc])
        rw [← HE.out] at hpre
        obtain ⟨q1, q2, ⟨q3, q4⟩, q5, q6⟩ := hcol
        have HNZ := Aside0.mk (show NoZ cn from q2)
        replace q1 : cn.size ≤ 32 := q1
        replace q3 : 0 ≤ ct0 := q3
        replace q4 : ct0 < 120 := q4
        replace q5 : 0 ≤ ct1 := q5
        replace q6 : ct1 < 120 := q6
        have HQ := Aside0.mk (show cn.size ≤ 32 ∧ xs.length ≤ 2000 from ⟨q1, hpre⟩)
        obtain ⟨Av, cv, e⟩ := own_slice HOr.out
        subst e
        have kc := fun (W : World) => run_bytes_of_string (P := Tryz.prog) W 9 62 5 cn Tryz.underlying9 Tryz.underlying62 Tryz.underlying5
        clear q1 q2 hstep hpre
        have HLX := Aside0.mk HQ.out.2
        have HW64 := Aside0.mk (show wrap64 ((i : Int) + 1) = ((i + 1 : Nat) : Int) by unfold wrap64; omega)
        cases nn with
        | false =>
          go_wp2_with (first
            | (go_at_call 71; refine (text3 cn HNZ.out (by have := HQ.out.1; omega) (wr.alloc (.cells #[.string cn, .int .i64 ct0, .int .i64 ct1, .bool false] 36)) (wr.heap.size + 1) (by simp) _ (grownCap_ge _ _ _ _) _).mono ?_; rintro x w5 ⟨v5, zs5, rfl, HE5, ho, hb⟩; have hl5 : zs5.length = cn.size + 2 := (by rw [HE5.out, List.length_append, sb_len]; rfl); obtain ⟨ad5, c5, e5, hx5⟩ := own_at ho (by omega); subst e5; have HX5 := Aside0.mk hx5; have HO5 := Aside0.mk (own_move HOr.out (fun k hk => (hb.block k (by have := own_lt HOr.out k hk; simp; omega)).trans (heap_alloc_old _ _ (own_lt HOr.out k hk)))); have HB5 := Aside0.mk (below_alloc (Below.refl wr.heap.size wr) (.cells #[.string cn, .int .i64 ct0, .int .i64 ct1, .bool false] 36)); have HD5 := Aside0.mk (HDr.out.trans ((HB5.out.trans (hb.mono HB5.out.size)).mono HDr.out.size)); have HK5 := Aside0.mk ((hb.block wr.heap.size (by simp)).trans (heap_alloc_new wr (.cells #[.string cn, .int .i64 ct0, .int .i64 ct1, .bool false] 36))); obtain ⟨y0, y1, y2, y3, yf⟩ := c36_facts HK5.out; have HL5 := Aside0.mk hl5; clear ho hb hx5 hl5 g0 g1 g2 g3)
            | (at_builtin; refine app_bytes rfl _ _ rfl w1.heap.size HD5.out.size _ xs rfl HO5.out ad5 c5 _ zs5 rfl rfl HX5.out (by have := HLX.out; have := HL5.out; have := HQ.out.1; omega) ?_; intro v6 w6 xs6 HE6 ho hb hp; obtain ⟨B6, d6, e6⟩ := own_slice ho; subst e6; have hl6 : xs6.length ≤ 2040 := (by have := HLX.out; have := HL5.out; have := HQ.out.1; rw [HE6.out, List.length_append]; omega); clear HLX; have HLX := Aside0.mk hl6; clear hl6; have HO6 := Aside0.mk ho; have HD6 := Aside0.mk (HD5.out.trans hb); have HK6 := Aside0.mk (hp _ _ _ _ HK5.out (by decide) (by decide)); clear y0 y1 y2 y3 yf; obtain ⟨y0, y1, y2, y3, yf⟩ := c36_facts HK6.out; clear ho hb hp HX5 HO5 HD5 HK5)
            | (go_at_call 72; refine (int3 ct0 q3 q4 w6).mono ?_; rintro x w7 ⟨v7, rfl, ho, hb⟩; obtain ⟨ad7, c7, e7, hx7⟩ := own_at ho (by simp); subst e7; have HX7 := Aside0.mk hx7; have HO7 := Aside0.mk (own_move HO6.out (fun k hk => hb.block k (own_lt HO6.out k hk))); have HD7 := Aside0.mk (HD6.out.trans (hb.mono HD6.out.size)); have HK7 := Aside0.mk ((hb.block wr.heap.size (blk_lt HK6.out)).trans HK6.out); clear y0 y1 y2 y3 yf; obtain ⟨y0, y1, y2, y3, yf⟩ := c36_facts HK7.out; clear ho hb hx7 HO6 HD6 HK6 q3 q4)
            | (at_builtin; refine app_bytes rfl _ _ rfl w1.heap.size HD7.out.size _ xs6 rfl HO7.out ad7 c7 _ [128 + ct0] rfl rfl HX7.out (by have := HLX.out; simp only [List.length_cons, List.length_nil]; omega) ?_; intro v8 w8 xs8 HE8 ho hb hp; obtain ⟨B8, d8, e8⟩ := own_slice ho; subst e8; have HLY := HLX.out; have hl8 : xs8.length ≤ 2041 := (by have := HLX.out; rw [HE8.out, List.length_append]; simp only [List.length_cons, List.length_nil]; omega); clear HLX HLY; have HLX := Aside0.mk hl8; clear hl8; have HO8 := Aside0.mk ho; have HD8 := Aside0.mk (HD7.out.trans hb); have HK8 := Aside0.mk (hp _ _ _ _ HK7.out (by decide) (by decide)); clear y0 y1 y2 y3 yf; obtain ⟨y0, y1, y2, y3, yf⟩ := c36_facts HK8.out; clear ho hb hp HX7 HO7 HD7 HK7)
            | (go_at_call 72; refine (int3 ct1 q5 q6 w8).mono ?_; rintro x w9 ⟨v9, rfl, ho, hb⟩; obtain ⟨ad9, c9, e9, hx9⟩ := own_at ho (by simp); subst e9; have HX9 := Aside0.mk hx9; have HO9 := Aside0.mk (own_move HO8.out (fun k hk => hb.block k (own_lt HO8.out k hk))); have HD9 := Aside0.mk (HD8.out.trans (hb.mono HD8.out.size)); have HK9 := Aside0.mk ((hb.block wr.heap.size (blk_lt HK8.out)).trans HK8.out); clear y0 y1 y2 y3 yf; obtain ⟨y0, y1, y2, y3, yf⟩ := c36_facts HK9.out; clear ho hb hx9 HO8 HD8 HK8 q5 q6)
            | (at_builtin; refine app_bytes rfl _ _ rfl w1.heap.size HD9.out.size _ xs8 rfl HO9.out ad9 c9 _ [128 + ct1] rfl rfl HX9.out (by have := HLX.out; simp only [List.length_cons, List.length_nil]; omega) ?_; intro v10 w10 xs10 HE10 ho hb hp; obtain ⟨B10, d10, e10⟩ := own_slice ho; subst e10; have HLY := HLX.out; have hl10 : xs10.length ≤ 2042 := (by have := HLX.out; rw [HE10.out, List.length_append]; simp only [List.length_cons, List.length_nil]; omega); clear HLX HLY; have HLX := Aside0.mk hl10; clear hl10; have HO10 := Aside0.mk ho; have HD10 := Aside0.mk (HD9.out.trans hb); have HK10 := Aside0.mk (hp _ _ _ _ HK9.out (by decide) (by decide)); clear y0 y1 y2 y3 yf; obtain ⟨y0, y1, y2, y3, yf⟩ := c36_facts HK10.out; clear ho hb hp HX9 HO9 HD9 HK9)
            | (go_at_call 72; refine (int3 0 (by decide) (by decide) w10).mono ?_; rintro x w11 ⟨v11, rfl, ho, hb⟩; obtain ⟨ad11, c11, e11, hx11⟩ := own_at ho (by simp); subst e11; have HX11 := Aside0.mk hx11; have HO11 := Aside0.mk (own_move HO10.out (fun k hk => hb.block k (own_lt HO10.out k hk))); have HD11 := Aside0.mk (HD10.out.trans (hb.mono HD10.out.size)); have HK11 := Aside0.mk ((hb.block wr.heap.size (blk_lt HK10.out)).trans HK10.out); clear y0 y1 y2 y3 yf; obtain ⟨y0, y1, y2, y3, yf⟩ := c36_facts HK11.out; clear ho hb hx11 HO10 HD10 HK10)
            | (at_builtin; refine app_bytes rfl _ _ rfl w1.heap.size HD11.out.size _ xs10 rfl HO11.out ad11 c11 _ [128 + 0] rfl rfl HX11.out (by have := HLX.out; simp only [List.length_cons, List.length_nil]; omega) ?_; intro v12 w12 xs12 HE12 ho hb hp; obtain ⟨B12, d12, e12⟩ := own_slice ho; subst e12; have HLY := HLX.out; have hl12 : xs12.length ≤ 2043 := (by have := HLX.out; rw [HE12.out, List.length_append]; simp only [List.length_cons, List.length_nil]; omega); clear HLX HLY; have HLX := Aside0.mk hl12; clear hl12; have HO12 := Aside0.mk ho; have HD12 := Aside0.mk (HD11.out.trans hb); have HK12 := Aside0.mk (hp _ _ _ _ HK11.out (by decide) (by decide)); clear y0 y1 y2 y3 yf; obtain ⟨y0, y1, y2, y3, yf⟩ := c36_facts HK12.out; clear ho hb hp HX11 HO11 HD11 HK11))
          go_roundg k1
          case measure => omega
          case rel => exact ⟨i + 1, _, xs12, rfl, by first | rw [HW64.out] | rfl, ⟨by have := HI.out; exact ⟨by omega, by omega⟩⟩, ⟨by rw [HS.out, HE12.out, HE10.out, HE8.out, HE6.out, HE5.out]; rfl⟩, HO12, HD12⟩
        | true =>
          go_wp2_with (first
            | (go_at_call 71; refine (text3 cn HNZ.out (by have := HQ.out.1; omega) (wr.alloc (.cells #[.string cn, .int .i64 ct0, .int .i64 ct1, .bool true] 36)) (wr.heap.size + 1) (by simp) _ (grownCap_ge _ _ _ _) _).mono ?_; rintro x w5 ⟨v5, zs5, rfl, HE5, ho, hb⟩; have hl5 : zs5.length = cn.size + 2 := (by rw [HE5.out, List.length_append, sb_len]; rfl); obtain ⟨ad5, c5, e5, hx5⟩ := own_at ho (by omega); subst e5; have HX5 := Aside0.mk hx5; have HO5 := Aside0.mk (own_move HOr.out (fun k hk => (hb.block k (by have := own_lt HOr.out k hk; simp; omega)).trans (heap_alloc_old _ _ (own_lt HOr.out k hk)))); have HB5 := Aside0.mk (below_alloc (Below.refl wr.heap.size wr) (.cells #[.string cn, .int .i64 ct0, .int .i64 ct1, .bool true] 36)); have HD5 := Aside0.mk (HDr.out.trans ((HB5.out.trans (hb.mono HB5.out.size)).mono HDr.out.size)); have HK5 := Aside0.mk ((hb.block wr.heap.size (by simp)).trans (heap_alloc_new wr (.cells #[.string cn, .int .i64 ct0, .int .i64 ct1, .bool true] 36))); obtain ⟨y0, y1, y2, y3, yf⟩ := c36_facts HK5.out; have HL5 := Aside0.mk hl5; clear ho hb hx5 hl5 g0 g1 g2 g3)
            | (at_builtin; refine app_bytes rfl _ _ rfl w1.heap.size HD5.out.size _ xs rfl HO5.out ad5 c5 _ zs5 rfl rfl HX5.out (by have := HLX.out; have := HL5.out; have := HQ.out.1; omega) ?_; intro v6 w6 xs6 HE6 ho hb hp; obtain ⟨B6, d6, e6⟩ := own_slice ho; subst e6; have hl6 : xs6.length ≤ 2040 := (by have := HLX.out; have := HL5.out; have := HQ.out.1; rw [HE6.out, List.length_append]; omega); clear HLX; have HLX := Aside0.mk hl6; clear hl6; have HO6 := Aside0.mk ho; have HD6 := Aside0.mk (HD5.out.trans hb); have HK6 := Aside0.mk (hp _ _ _ _ HK5.out (by decide) (by decide)); clear y0 y1 y2 y3 yf; obtain ⟨y0, y1, y2, y3, yf⟩ := c36_facts HK6.out; clear ho hb hp HX5 HO5 HD5 HK5)
            | (go_at_call 72; refine (int3 ct0 q3 q4 w6).mono ?_; rintro x w7 ⟨v7, rfl, ho, hb⟩; obtain ⟨ad7, c7, e7, hx7⟩ := own_at ho (by simp); subst e7; have HX7 := Aside0.mk hx7; have HO7 := Aside0.mk (own_move HO6.out (fun k hk => hb.block k (own_lt HO6.out k hk))); have HD7 := Aside0.mk (HD6.out.trans (hb.mono HD6.out.size)); have HK7 := Aside0.mk ((hb.block wr.heap.size (blk_lt HK6.out)).trans HK6.out); clear y0 y1 y2 y3 yf; obtain ⟨y0, y1, y2, y3, yf⟩ := c36_facts HK7.out; clear ho hb hx7 HO6 HD6 HK6 q3 q4)
            | (at_builtin; refine app_bytes rfl _ _ rfl w1.heap.size HD7.out.size _ xs6 rfl HO7.out ad7 c7 _ [128 + ct0] rfl rfl HX7.out (by have := HLX.out; simp only [List.length_cons, List.length_nil]; omega) ?_; intro v8 w8 xs8 HE8 ho hb hp; obtain ⟨B8, d8, e8⟩ := own_slice ho; subst e8; have HLY := HLX.out; have hl8 : xs8.length ≤ 2041 := (by have := HLX.out; rw [HE8.out, List.length_append]; simp only [List.length_cons, List.length_nil]; omega); clear HLX HLY; have HLX := Aside0.mk hl8; clear hl8; have HO8 := Aside0.mk ho; have HD8 := Aside0.mk (HD7.out.trans hb); have HK8 := Aside0.mk (hp _ _ _ _ HK7.out (by decide) (by decide)); clear y0 y1 y2 y3 yf; obtain ⟨y0, y1, y2, y3, yf⟩ := c36_facts HK8.out; clear ho hb hp HX7 HO7 HD7 HK7)
            | (go_at_call 72; refine (int3 ct1 q5 q6 w8).mono ?_; rintro x w9 ⟨v9, rfl, ho, hb⟩; obtain ⟨ad9, c9, e9, hx9⟩ := own_at ho (by simp); subst e9; have HX9 := Aside0.mk hx9; have HO9 := Aside0.mk (own_move HO8.out (fun k hk => hb.block k (own_lt HO8.out k hk))); have HD9 := Aside0.mk (HD8.out.trans (hb.mono HD8.out.size)); have HK9 := Aside0.mk ((hb.block wr.heap.size (blk_lt HK8.out)).trans HK8.out); clear y0 y1 y2 y3 yf; obtain ⟨y0, y1, y2, y3, yf⟩ := c36_facts HK9.out; clear ho hb hx9 HO8 HD8 HK8 q5 q6)
            | (at_builtin; refine app_bytes rfl _ _ rfl w1.heap.size HD9.out.size _ xs8 rfl HO9.out ad9 c9 _ [128 + ct1] rfl rfl HX9.out (by have := HLX.out; simp only [List.length_cons, List.length_nil]; omega) ?_; intro v10 w10 xs10 HE10 ho hb hp; obtain ⟨B10, d10, e10⟩ := own_slice ho; subst e10; have HLY := HLX.out; have hl10 : xs10.length ≤ 2042 := (by have := HLX.out; rw [HE10.out, List.length_append]; simp only [List.length_cons, List.length_nil]; omega); clear HLX HLY; have HLX := Aside0.mk hl10; clear hl10; have HO10 := Aside0.mk ho; have HD10 := Aside0.mk (HD9.out.trans hb); have HK10 := Aside0.mk (hp _ _ _ _ HK9.out (by decide) (by decide)); clear y0 y1 y2 y3 yf; obtain ⟨y0, y1, y2, y3, yf⟩ := c36_facts HK10.out; clear ho hb hp HX9 HO9 HD9 HK9)
            | (go_at_call 72; refine (int3 1 (by decide) (by decide) w10).mono ?_; rintro x w11 ⟨v11, rfl, ho, hb⟩; obtain ⟨ad11, c11, e11, hx11⟩ := own_at ho (by simp); subst e11; have HX11 := Aside0.mk hx11; have HO11 := Aside0.mk (own_move HO10.out (fun k hk => hb.block k (own_lt HO10.out k hk))); have HD11 := Aside0.mk (HD10.out.trans (hb.mono HD10.out.size)); have HK11 := Aside0.mk ((hb.block wr.heap.size (blk_lt HK10.out)).trans HK10.out); clear y0 y1 y2 y3 yf; obtain ⟨y0, y1, y2, y3, yf⟩ := c36_facts HK11.out; clear ho hb hx11 HO10 HD10 HK10)
            | (at_builtin; refine app_bytes rfl _ _ rfl w1.heap.size HD11.out.size _ xs10 rfl HO11.out ad11 c11 _ [128 + 1] rfl rfl HX11.out (by have := HLX.out; simp only [List.length_cons, List.length_nil]; omega) ?_; intro v12 w12 xs12 HE12 ho hb hp; obtain ⟨B12, d12, e12⟩ := own_slice ho; subst e12; have HLY := HLX.out; have hl12 : xs12.length ≤ 2043 := (by have := HLX.out; rw [HE12.out, List.length_append]; simp only [List.length_cons, List.length_nil]; omega); clear HLX HLY; have HLX := Aside0.mk hl12; clear hl12; have HO12 := Aside0.mk ho; have HD12 := Aside0.mk (HD11.out.trans hb); have HK12 := Aside0.mk (hp _ _ _ _ HK11.out (by decide) (by decide)); clear y0 y1 y2 y3 yf; obtain ⟨y0, y1, y2, y3, yf⟩ := c36_facts HK12.out; clear ho hb hp HX11 HO11 HD11 HK11))
          go_roundg k1
          case measure => omega
          case rel => exact ⟨i + 1, _, xs12, rfl, by first | rw [HW64.out] | rfl, ⟨by have := HI.out; exact ⟨by omega, by omega⟩⟩, ⟨by rw [HS.out, HE12.out, HE10.out, HE8.out, HE6.out, HE5.out]; rfl⟩, HO12, HD12⟩
      · have hI : i = cols.length := by have := HI.out; omega
        subst hI
        have c0 : decide ((cols.length : Int) < (cols.length : Int)) = false := decide_eq_false (by omega)
        have ho := HOr.out
        have he : xs = enc nm cols := by rw [HE.out, List.take_length]; rfl
        rw [he] at ho
        have HOZ := Aside0.mk ho
        clear ho he
        go_wp2
        go_ret2
        exact ⟨_, rfl, own_less HOZ.out HB1.out.size, HB1.out.trans (HDr.out.mono HB1.out.size)⟩
end Go.Proofs.YtmeopdjdjmjngaaGreatDoor.I
