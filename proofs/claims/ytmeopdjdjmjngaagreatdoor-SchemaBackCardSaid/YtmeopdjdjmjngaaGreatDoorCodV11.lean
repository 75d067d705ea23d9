/- SchemaBack, walked. -/
import Derived.Test.YtmeopdjdjmjngaaGreatDoorCodN11
import Derived.Test.YtmeopdjdjmjngaaGreatDoorK5
set_option linter.unusedVariables false
set_option linter.unusedSimpArgs false
namespace Go.Proofs.YtmeopdjdjmjngaaGreatDoor.K
open Go.RowKit Go.Lib Go.Proofs.YtmeopdjdjmjngaaGreatDoorW.PrintWords Go.Proofs.YtmeopdjdjmjngaaGreatDoorW.PrintLast Go.Proofs.YtmeopdjdjmjngaaGreatDoorW.PrintMore Go.Proofs.YtmeopdjdjmjngaaGreatDoor.Cod
theorem w64D (a : Nat) (h : a ≤ 1000000000000000000) : wrap64 ((a : Int) + 1) = ((a + 1 : Nat) : Int) := by unfold wrap64; omega
theorem same_self_l (nm : ByteArray) (l : List AC) (hm : l.length ≤ 1000000000000000000) : ∀ (d k i : Nat), i + d = l.length → d < k → colonnaderef11_Same.l0 k (i : Int) nm l nm l = some true := by
  intro d
  induction d with
  | zero =>
    intro k i hi hk
    obtain ⟨k, rfl⟩ : ∃ m, k = m + 1 := ⟨k - 1, by omega⟩
    rw [colonnaderef11_Same.l0, if_neg (by omega)]
  | succ d ih =>
    intro k i hi hk
    obtain ⟨k, rfl⟩ : ∃ m, k = m + 1 := ⟨k - 1, by omega⟩
    rw [colonnaderef11_Same.l0, if_pos (by omega), if_pos (by omega), if_pos (by omega), if_neg (by simp), w64D i (by omega)]
    exact ih k (i + 1) (by omega) (by omega)
theorem same_self (nm : ByteArray) (l : List AC) (hm : l.length ≤ 1000000000000000000) (k : Nat) (hk : l.length + 2 < k) : colonnaderef11_Same.f k nm l nm l = some true := by
  obtain ⟨k, rfl⟩ : ∃ m, k = m + 1 := ⟨k - 1, by omega⟩
  unfold colonnaderef11_Same.f
  rw [if_pos rfl, colonnaderef11_Same.j0, if_neg (by simp)]
  exact same_self_l nm l hm l.length k 0 (by omega) (by omega)
theorem enc_rd {nm : ByteArray} {l : List AC} (h : DefOk nm l) : RdOk (enc nm l) := rdok_of (enc_range h)
set_option maxHeartbeats 8000000 in
set_option maxRecDepth 100000 in
theorem back_yy (k : Nat) (nm : ByteArray) (A0 : Option Addr) (c0 : Nat) (cols : List AC) (A1 : Option Addr) (c1 : Nat) (raw : List Int) (w : World) (hr0 : Kd.C k36 w A0 cols.length cols) (hc0 : cols.length ≤ c0) (hr1 : Kd.C (Kd.int .u8) w A1 raw.length raw) (hc1 : raw.length ≤ c1) (hrd : RdOk raw) (hlen : raw.length ≤ 140737488355328)
    (hk : 200 < k) (hbeg : colonnadelaw11_begun.f k = some true) (hG : Gl w) (hchk : schema_Check.f nm cols = some 0) (nm2 : ByteArray) (cols2 : List AC) (hchk2 : schema_Check.f nm2 cols2 = some 0) (he2 : raw = enc nm2 cols2) :
    Calls Tryz.prog 9 #[.agg #[.string nm, .slice A0 cols.length c0], .slice A1 raw.length c1] w fun e w' => e = .returned (.bool true) ∧ Below w.heap.size w w' := by
  have hu24 := Tryz.underlying24
  have hok := Check_ok nm cols hchk
  have hok2 := Check_ok nm2 cols2 hchk2
  have HS := Aside0.mk (same_self nm cols (by have := hok.2.2.1; omega) k (by have := hok.2.2.1; omega))
  have HB0 := Aside0.mk (below_alloc (Below.refl w.heap.size w) (.cells #[.string nm, .slice A0 cols.length c0] 24))
  have HK0 := Aside0.mk (heap_alloc_new w (.cells #[.string nm, .slice A0 cols.length c0] 24))
  have BY := Aside0.mk (fun (W : World) (hb : Below w.heap.size w W) => bytes_yes nm A0 c0 cols W (Kd.C_below hr0 hb) hc0 hchk hok)
  have CBG := Aside0.mk (fun (W : World) (hb : Below w.heap.size w W) => colonnadelaw11_begun.calls k true W hbeg (hG.of hb))
  have CHK := Aside0.mk (fun (W : World) (hb : Below w.heap.size w W) => schema_Check.calls nm A0 c0 cols 0 W (Kd.C_below hr0 hb) hc0 hchk)
  have PA := Aside0.mk (fun (W : World) (hb : Below w.heap.size w W) => parse_yes nm2 cols2 A1 c1 raw W (Kd.C_below hr1 hb) hc1 hrd hlen hchk2 he2)
  have PB := Aside0.mk (fun (A : Option Addr) (c : Nat) (W : World) (hC : Kd.C (Kd.int .u8) W A (enc nm cols).length (enc nm cols)) (hc : (enc nm cols).length ≤ c) => parse_yes nm cols A c (enc nm cols) W hC hc (enc_rd hok) (by have := (enc_len hok).2; omega) hchk rfl)
  have SM := Aside0.mk (fun (A : Option Addr) (c : Nat) (W : World) (hb : Below w.heap.size w W) (hC : Kd.C k36 W A cols.length cols) (hc : cols.length ≤ c) => colonnaderef11_Same.calls k nm A c cols nm A0 c0 cols true W hC hc (Kd.C_below hr0 hb) hc0 HS.out)
  have BZ := Aside0.mk (fun (A : Option Addr) (c : Nat) (W : World) (hC : Kd.C k36 W A cols2.length cols2) (hc : cols2.length ≤ c) => bytes_yes nm2 A c cols2 W hC hc hchk2 hok2)
  have EQ := Aside0.mk (fun (A : Option Addr) (c : Nat) (W : World) (hb : Below w.heap.size w W) (hC : Kd.C (Kd.int .u8) W A (enc nm2 cols2).length (enc nm2 cols2)) (hc : (enc nm2 cols2).length ≤ c) => bytes_Equal.calls A c (enc nm2 cols2) A1 c1 raw true W hC hc (Kd.C_below hr1 hb) hc1 (by rw [← he2]; unfold bytes_Equal.f; simp))
  clear hr0 hr1 hc0 hc1 hchk hchk2 hok hok2 hrd hlen he2 hG hbeg hk
  go_enter Tryz.func9, Tryz.ntmps9
  go_wp2_with (first
    | (go_at_call 36; refine (BY.out _ HB0.out).mono ?_; rintro x w1 ⟨v1, rfl, ho, hb⟩; obtain ⟨A3, c3, e3, hc3, hC3⟩ := own_bytes ho; subst e3; have HB1 := Aside0.mk (HB0.out.trans (hb.mono HB0.out.size)); have HK1 := Aside0.mk ((hb.block w.heap.size (blk_lt HK0.out)).trans HK0.out); have HC3 := Aside0.mk hc3; have HR3 := Aside0.mk hC3; clear ho hb hc3 hC3 BY)
    | (go_at_call 12; refine (CBG.out _ HB1.out).mono ?_; rintro x w2 ⟨rfl, hb⟩; have HB2 := Aside0.mk (HB1.out.trans (hb.mono HB1.out.size)); have HK2 := Aside0.mk ((hb.block w.heap.size (blk_lt HK1.out)).trans HK1.out); have HR3b := Aside0.mk (Kd.C_below HR3.out hb); obtain ⟨x0, x1, xf⟩ := d36_facts HK2.out; clear hb)
    | (go_at_call 18; refine (CHK.out _ HB2.out).mono ?_; rintro x w3 ⟨rfl, hb⟩; have HB3 := Aside0.mk (HB2.out.trans (hb.mono HB2.out.size)); have HK3 := Aside0.mk ((hb.block w.heap.size (blk_lt HK2.out)).trans HK2.out); have HR3c := Aside0.mk (Kd.C_below HR3b.out hb); clear hb x0 x1 xf; obtain ⟨x0, x1, xf⟩ := d36_facts HK3.out)
    | (go_at_call 38; refine (PB.out A3 c3 w3 HR3c.out HC3.out).mono ?_; rintro x w4 ⟨A4, c4, rfl, hc4, hC4, hb⟩; have HB4 := Aside0.mk (HB3.out.trans (hb.mono HB3.out.size)); have HK4 := Aside0.mk ((hb.block w.heap.size (blk_lt HK3.out)).trans HK3.out); have HC4 := Aside0.mk hc4; have HR4 := Aside0.mk hC4; have HB4a := Aside0.mk (below_alloc HB4.out (.cells #[.string nm, .slice A4 cols.length c4] 24)); have HK4a := Aside0.mk ((heap_alloc_old w4 (.cells #[.string nm, .slice A4 cols.length c4] 24) (blk_lt HK4.out)).trans HK4.out); have HR4a := Aside0.mk (Kd.C_below HR4.out (below_alloc (Below.refl _ _) (.cells #[.string nm, .slice A4 cols.length c4] 24))); clear hb hc4 hC4 x0 x1 xf PB; obtain ⟨x0, x1, xf⟩ := d36_facts HK4a.out)
    | (go_at_call 31; refine (SM.out A4 c4 _ HB4a.out HR4a.out HC4.out).mono ?_; rintro x w5 ⟨rfl, hb⟩; have HB5 := Aside0.mk (HB4a.out.trans (hb.mono HB4a.out.size)); clear hb x0 x1 xf)
    | (go_at_call 38; refine (PA.out w5 HB5.out).mono ?_; rintro x w6 ⟨A6, c6, rfl, hc6, hC6, hb⟩; have HB6 := Aside0.mk (HB5.out.trans (hb.mono HB5.out.size)); have HC6 := Aside0.mk hc6; have HB6a := Aside0.mk (below_alloc HB6.out (.cells #[.string nm2, .slice A6 cols2.length c6] 24)); have HR6a := Aside0.mk (Kd.C_below hC6 (below_alloc (Below.refl _ _) (.cells #[.string nm2, .slice A6 cols2.length c6] 24))); clear hb hc6 hC6)
    | (go_at_call 36; refine (BZ.out A6 c6 _ HR6a.out HC6.out).mono ?_; rintro x w7 ⟨v7, rfl, ho, hb⟩; obtain ⟨A7, c7, e7, hc7, hC7⟩ := own_bytes ho; subst e7; have HB7 := Aside0.mk (HB6a.out.trans (hb.mono HB6a.out.size)); have HC7 := Aside0.mk hc7; have HR7 := Aside0.mk hC7; clear ho hb hc7 hC7)
    | (go_at_call 40; refine (EQ.out A7 c7 w7 HB7.out HR7.out HC7.out).mono ?_; rintro x w8 ⟨rfl, hb⟩; have HB8 := Aside0.mk (HB7.out.trans (hb.below.mono HB7.out.size)); clear hb))
  go_ret
  exact ⟨rfl, HB8.out⟩
/-! the other three -/
set_option maxHeartbeats 8000000 in
set_option maxRecDepth 100000 in
theorem back_yn (k : Nat) (nm : ByteArray) (A0 : Option Addr) (c0 : Nat) (cols : List AC) (A1 : Option Addr) (c1 : Nat) (raw : List Int) (w : World) (hr0 : Kd.C k36 w A0 cols.length cols) (hc0 : cols.length ≤ c0) (hr1 : Kd.C (Kd.int .u8) w A1 raw.length raw) (hc1 : raw.length ≤ c1) (hrd : RdOk raw) (hlen : raw.length ≤ 140737488355328)
    (hk : 200 < k) (hbeg : colonnadelaw11_begun.f k = some true) (hG : Gl w) (hchk : schema_Check.f nm cols = some 0) (hno : ∀ nm2 cols2, schema_Check.f nm2 cols2 = some 0 → raw = enc nm2 cols2 → False) :
    Calls Tryz.prog 9 #[.agg #[.string nm, .slice A0 cols.length c0], .slice A1 raw.length c1] w fun e w' => e = .returned (.bool true) ∧ Below w.heap.size w w' := by
  have hu24 := Tryz.underlying24
  have hok := Check_ok nm cols hchk
  have HZ := Aside0.mk (same_self (⟨#[]⟩ : ByteArray) [] (by decide) k (by have : ([] : List AC).length = 0 := rfl; omega))
  have HS := Aside0.mk (same_self nm cols (by have := hok.2.2.1; omega) k (by have := hok.2.2.1; omega))
  have HB0 := Aside0.mk (below_alloc (Below.refl w.heap.size w) (.cells #[.string nm, .slice A0 cols.length c0] 24))
  have HK0 := Aside0.mk (heap_alloc_new w (.cells #[.string nm, .slice A0 cols.length c0] 24))
  have BY := Aside0.mk (fun (W : World) (hb : Below w.heap.size w W) => bytes_yes nm A0 c0 cols W (Kd.C_below hr0 hb) hc0 hchk hok)
  have CBG := Aside0.mk (fun (W : World) (hb : Below w.heap.size w W) => colonnadelaw11_begun.calls k true W hbeg (hG.of hb))
  have CHK := Aside0.mk (fun (W : World) (hb : Below w.heap.size w W) => schema_Check.calls nm A0 c0 cols 0 W (Kd.C_below hr0 hb) hc0 hchk)
  have PA := Aside0.mk (fun (W : World) (hb : Below w.heap.size w W) => parse_no A1 c1 raw W (Kd.C_below hr1 hb) hc1 hrd hlen hno)
  have PB := Aside0.mk (fun (A : Option Addr) (c : Nat) (W : World) (hC : Kd.C (Kd.int .u8) W A (enc nm cols).length (enc nm cols)) (hc : (enc nm cols).length ≤ c) => parse_yes nm cols A c (enc nm cols) W hC hc (enc_rd hok) (by have := (enc_len hok).2; omega) hchk rfl)
  have SM := Aside0.mk (fun (A : Option Addr) (c : Nat) (W : World) (hb : Below w.heap.size w W) (hC : Kd.C k36 W A cols.length cols) (hc : cols.length ≤ c) => colonnaderef11_Same.calls k nm A c cols nm A0 c0 cols true W hC hc (Kd.C_below hr0 hb) hc0 HS.out)
  have SN := Aside0.mk (fun (W : World) => colonnaderef11_Same.calls k (⟨#[]⟩ : ByteArray) none 0 [] (⟨#[]⟩ : ByteArray) none 0 [] true W ⟨rfl, by decide, fun q => absurd q (Nat.lt_irrefl 0)⟩ (Nat.le_refl _) ⟨rfl, by decide, fun q => absurd q (Nat.lt_irrefl 0)⟩ (Nat.le_refl _) HZ.out)
  clear hr0 hr1 hc0 hc1 hchk hok hrd hlen hno hG hbeg hk
  go_enter Tryz.func9, Tryz.ntmps9
  go_wp2_with (first
    | (go_at_call 36; refine (BY.out _ HB0.out).mono ?_; rintro x w1 ⟨v1, rfl, ho, hb⟩; obtain ⟨A3, c3, e3, hc3, hC3⟩ := own_bytes ho; subst e3; have HB1 := Aside0.mk (HB0.out.trans (hb.mono HB0.out.size)); have HK1 := Aside0.mk ((hb.block w.heap.size (blk_lt HK0.out)).trans HK0.out); have HC3 := Aside0.mk hc3; have HR3 := Aside0.mk hC3; clear ho hb hc3 hC3 BY)
    | (go_at_call 12; refine (CBG.out _ HB1.out).mono ?_; rintro x w2 ⟨rfl, hb⟩; have HB2 := Aside0.mk (HB1.out.trans (hb.mono HB1.out.size)); have HK2 := Aside0.mk ((hb.block w.heap.size (blk_lt HK1.out)).trans HK1.out); have HR3b := Aside0.mk (Kd.C_below HR3.out hb); obtain ⟨x0, x1, xf⟩ := d36_facts HK2.out; clear hb)
    | (go_at_call 18; refine (CHK.out _ HB2.out).mono ?_; rintro x w3 ⟨rfl, hb⟩; have HB3 := Aside0.mk (HB2.out.trans (hb.mono HB2.out.size)); have HK3 := Aside0.mk ((hb.block w.heap.size (blk_lt HK2.out)).trans HK2.out); have HR3c := Aside0.mk (Kd.C_below HR3b.out hb); clear hb x0 x1 xf; obtain ⟨x0, x1, xf⟩ := d36_facts HK3.out)
    | (go_at_call 38; refine (PB.out A3 c3 w3 HR3c.out HC3.out).mono ?_; rintro x w4 ⟨A4, c4, rfl, hc4, hC4, hb⟩; have HB4 := Aside0.mk (HB3.out.trans (hb.mono HB3.out.size)); have HK4 := Aside0.mk ((hb.block w.heap.size (blk_lt HK3.out)).trans HK3.out); have HC4 := Aside0.mk hc4; have HR4 := Aside0.mk hC4; have HB4a := Aside0.mk (below_alloc HB4.out (.cells #[.string nm, .slice A4 cols.length c4] 24)); have HK4a := Aside0.mk ((heap_alloc_old w4 (.cells #[.string nm, .slice A4 cols.length c4] 24) (blk_lt HK4.out)).trans HK4.out); have HR4a := Aside0.mk (Kd.C_below HR4.out (below_alloc (Below.refl _ _) (.cells #[.string nm, .slice A4 cols.length c4] 24))); clear hb hc4 hC4 x0 x1 xf PB; obtain ⟨x0, x1, xf⟩ := d36_facts HK4a.out)
    | (go_at_call 31; refine (SM.out A4 c4 _ HB4a.out HR4a.out HC4.out).mono ?_; rintro x w5 ⟨rfl, hb⟩; have HB5 := Aside0.mk (HB4a.out.trans (hb.mono HB4a.out.size)); clear hb x0 x1 xf SM)
    | (go_at_call 38; refine (PA.out w5 HB5.out).mono ?_; rintro x w6 ⟨rfl, hb⟩; have HB6 := Aside0.mk (HB5.out.trans (hb.mono HB5.out.size)); have HB6a := Aside0.mk (below_alloc HB6.out (.cells #[.string (⟨#[]⟩ : ByteArray), .slice none 0 0] 24)); clear hb PA)
    | (go_at_call 31; refine (SN.out _).mono ?_; rintro x w7 ⟨rfl, hb⟩; have HB8 := Aside0.mk (HB6a.out.trans (hb.mono HB6a.out.size)); clear hb))
  go_ret
  exact ⟨rfl, HB8.out⟩
set_option maxHeartbeats 8000000 in
set_option maxRecDepth 100000 in
theorem back_ny (k : Nat) (nm : ByteArray) (A0 : Option Addr) (c0 : Nat) (cols : List AC) (A1 : Option Addr) (c1 : Nat) (raw : List Int) (w : World) (hr0 : Kd.C k36 w A0 cols.length cols) (hc0 : cols.length ≤ c0) (hr1 : Kd.C (Kd.int .u8) w A1 raw.length raw) (hc1 : raw.length ≤ c1) (hrd : RdOk raw) (hlen : raw.length ≤ 140737488355328)
    (hk : 200 < k) (hbeg : colonnadelaw11_begun.f k = some true) (hG : Gl w) (rc : Int) (hrc : ¬ rc = 0) (hchk : schema_Check.f nm cols = some rc) (nm2 : ByteArray) (cols2 : List AC) (hchk2 : schema_Check.f nm2 cols2 = some 0) (he2 : raw = enc nm2 cols2) :
    Calls Tryz.prog 9 #[.agg #[.string nm, .slice A0 cols.length c0], .slice A1 raw.length c1] w fun e w' => e = .returned (.bool true) ∧ Below w.heap.size w w' := by
  have hu24 := Tryz.underlying24
  have e1 : (rc != 0) = true := bne_iff_ne.mpr hrc
  have e2 : (rc == 0) = false := beq_eq_false_iff_ne.mpr hrc
  have hok2 := Check_ok nm2 cols2 hchk2
  have HB0 := Aside0.mk (below_alloc (Below.refl w.heap.size w) (.cells #[.string nm, .slice A0 cols.length c0] 24))
  have HK0 := Aside0.mk (heap_alloc_new w (.cells #[.string nm, .slice A0 cols.length c0] 24))
  have BY := Aside0.mk (fun (W : World) (hb : Below w.heap.size w W) => bytes_no nm A0 c0 cols W (Kd.C_below hr0 hb) hc0 rc hchk hrc)
  have CBG := Aside0.mk (fun (W : World) (hb : Below w.heap.size w W) => colonnadelaw11_begun.calls k true W hbeg (hG.of hb))
  have CHK := Aside0.mk (fun (W : World) (hb : Below w.heap.size w W) => schema_Check.calls nm A0 c0 cols rc W (Kd.C_below hr0 hb) hc0 hchk)
  have PA := Aside0.mk (fun (W : World) (hb : Below w.heap.size w W) => parse_yes nm2 cols2 A1 c1 raw W (Kd.C_below hr1 hb) hc1 hrd hlen hchk2 he2)
  have BZ := Aside0.mk (fun (A : Option Addr) (c : Nat) (W : World) (hC : Kd.C k36 W A cols2.length cols2) (hc : cols2.length ≤ c) => bytes_yes nm2 A c cols2 W hC hc hchk2 hok2)
  have EQ := Aside0.mk (fun (A : Option Addr) (c : Nat) (W : World) (hb : Below w.heap.size w W) (hC : Kd.C (Kd.int .u8) W A (enc nm2 cols2).length (enc nm2 cols2)) (hc : (enc nm2 cols2).length ≤ c) => bytes_Equal.calls A c (enc nm2 cols2) A1 c1 raw true W hC hc (Kd.C_below hr1 hb) hc1 (by rw [← he2]; unfold bytes_Equal.f; simp))
  clear hr0 hr1 hc0 hc1 hchk hchk2 hok2 hrc hrd hlen he2 hG hbeg hk
  go_enter Tryz.func9, Tryz.ntmps9
  go_wp2_with (first
    | (go_at_call 36; refine (BY.out _ HB0.out).mono ?_; rintro x w1 ⟨rfl, hb⟩; have HB1 := Aside0.mk (HB0.out.trans (hb.mono HB0.out.size)); have HK1 := Aside0.mk ((hb.block w.heap.size (blk_lt HK0.out)).trans HK0.out); clear hb BY)
    | (go_at_call 12; refine (CBG.out _ HB1.out).mono ?_; rintro x w2 ⟨rfl, hb⟩; have HB2 := Aside0.mk (HB1.out.trans (hb.mono HB1.out.size)); have HK2 := Aside0.mk ((hb.block w.heap.size (blk_lt HK1.out)).trans HK1.out); obtain ⟨x0, x1, xf⟩ := d36_facts HK2.out; clear hb)
    | (go_at_call 18; refine (CHK.out _ HB2.out).mono ?_; rintro x w3 ⟨rfl, hb⟩; have HB3 := Aside0.mk (HB2.out.trans (hb.mono HB2.out.size)); have HK3 := Aside0.mk ((hb.block w.heap.size (blk_lt HK2.out)).trans HK2.out); clear hb x0 x1 xf)
    | (go_at_call 38; refine (PA.out w3 HB3.out).mono ?_; rintro x w6 ⟨A6, c6, rfl, hc6, hC6, hb⟩; have HB6 := Aside0.mk (HB3.out.trans (hb.mono HB3.out.size)); have HC6 := Aside0.mk hc6; have HB6a := Aside0.mk (below_alloc HB6.out (.cells #[.string nm2, .slice A6 cols2.length c6] 24)); have HR6a := Aside0.mk (Kd.C_below hC6 (below_alloc (Below.refl _ _) (.cells #[.string nm2, .slice A6 cols2.length c6] 24))); clear hb hc6 hC6)
    | (go_at_call 36; refine (BZ.out A6 c6 _ HR6a.out HC6.out).mono ?_; rintro x w7 ⟨v7, rfl, ho, hb⟩; obtain ⟨A7, c7, e7, hc7, hC7⟩ := own_bytes ho; subst e7; have HB7 := Aside0.mk (HB6a.out.trans (hb.mono HB6a.out.size)); have HC7 := Aside0.mk hc7; have HR7 := Aside0.mk hC7; clear ho hb hc7 hC7)
    | (go_at_call 40; refine (EQ.out A7 c7 w7 HB7.out HR7.out HC7.out).mono ?_; rintro x w8 ⟨rfl, hb⟩; have HB8 := Aside0.mk (HB7.out.trans (hb.below.mono HB7.out.size)); clear hb))
  go_ret
  exact ⟨rfl, HB8.out⟩
set_option maxHeartbeats 8000000 in
set_option maxRecDepth 100000 in
theorem back_nn (k : Nat) (nm : ByteArray) (A0 : Option Addr) (c0 : Nat) (cols : List AC) (A1 : Option Addr) (c1 : Nat) (raw : List Int) (w : World) (hr0 : Kd.C k36 w A0 cols.length cols) (hc0 : cols.length ≤ c0) (hr1 : Kd.C (Kd.int .u8) w A1 raw.length raw) (hc1 : raw.length ≤ c1) (hrd : RdOk raw) (hlen : raw.length ≤ 140737488355328)
    (hk : 200 < k) (hbeg : colonnadelaw11_begun.f k = some true) (hG : Gl w) (rc : Int) (hrc : ¬ rc = 0) (hchk : schema_Check.f nm cols = some rc) (hno : ∀ nm2 cols2, schema_Check.f nm2 cols2 = some 0 → raw = enc nm2 cols2 → False) :
    Calls Tryz.prog 9 #[.agg #[.string nm, .slice A0 cols.length c0], .slice A1 raw.length c1] w fun e w' => e = .returned (.bool true) ∧ Below w.heap.size w w' := by
  have hu24 := Tryz.underlying24
  have e1 : (rc != 0) = true := bne_iff_ne.mpr hrc
  have e2 : (rc == 0) = false := beq_eq_false_iff_ne.mpr hrc
  have HZ := Aside0.mk (same_self (⟨#[]⟩ : ByteArray) [] (by decide) k (by have : ([] : List AC).length = 0 := rfl; omega))
  have HB0 := Aside0.mk (below_alloc (Below.refl w.heap.size w) (.cells #[.string nm, .slice A0 cols.length c0] 24))
  have HK0 := Aside0.mk (heap_alloc_new w (.cells #[.string nm, .slice A0 cols.length c0] 24))
  have BY := Aside0.mk (fun (W : World) (hb : Below w.heap.size w W) => bytes_no nm A0 c0 cols W (Kd.C_below hr0 hb) hc0 rc hchk hrc)
  have CBG := Aside0.mk (fun (W : World) (hb : Below w.heap.size w W) => colonnadelaw11_begun.calls k true W hbeg (hG.of hb))
  have CHK := Aside0.mk (fun (W : World) (hb : Below w.heap.size w W) => schema_Check.calls nm A0 c0 cols rc W (Kd.C_below hr0 hb) hc0 hchk)
  have PA := Aside0.mk (fun (W : World) (hb : Below w.heap.size w W) => parse_no A1 c1 raw W (Kd.C_below hr1 hb) hc1 hrd hlen hno)
  have SN := Aside0.mk (fun (W : World) => colonnaderef11_Same.calls k (⟨#[]⟩ : ByteArray) none 0 [] (⟨#[]⟩ : ByteArray) none 0 [] true W ⟨rfl, by decide, fun q => absurd q (Nat.lt_irrefl 0)⟩ (Nat.le_refl _) ⟨rfl, by decide, fun q => absurd q (Nat.lt_irrefl 0)⟩ (Nat.le_refl _) HZ.out)
  clear hr0 hr1 hc0 hc1 hchk hrc hrd hlen hno hG hbeg hk
  go_enter Tryz.func9, Tryz.ntmps9
  go_wp2_with (first
    | (go_at_call 36; refine (BY.out _ HB0.out).mono ?_; rintro x w1 ⟨rfl, hb⟩; have HB1 := Aside0.mk (HB0.out.trans (hb.mono HB0.out.size)); have HK1 := Aside0.mk ((hb.block w.heap.size (blk_lt HK0.out)).trans HK0.out); clear hb BY)
    | (go_at_call 12; refine (CBG.out _ HB1.out).mono ?_; rintro x w2 ⟨rfl, hb⟩; have HB2 := Aside0.mk (HB1.out.trans (hb.mono HB1.out.size)); have HK2 := Aside0.mk ((hb.block w.heap.size (blk_lt HK1.out)).trans HK1.out); obtain ⟨x0, x1, xf⟩ := d36_facts HK2.out; clear hb)
    | (go_at_call 18; refine (CHK.out _ HB2.out).mono ?_; rintro x w3 ⟨rfl, hb⟩; have HB3 := Aside0.mk (HB2.out.trans (hb.mono HB2.out.size)); have HK3 := Aside0.mk ((hb.block w.heap.size (blk_lt HK2.out)).trans HK2.out); clear hb x0 x1 xf)
    | (go_at_call 38; refine (PA.out w3 HB3.out).mono ?_; rintro x w6 ⟨rfl, hb⟩; have HB6 := Aside0.mk (HB3.out.trans (hb.mono HB3.out.size)); have HB6a := Aside0.mk (below_alloc HB6.out (.cells #[.string (⟨#[]⟩ : ByteArray), .slice none 0 0] 24)); clear hb PA)
    | (go_at_call 31; refine (SN.out _).mono ?_; rintro x w7 ⟨rfl, hb⟩; have HB8 := Aside0.mk (HB6a.out.trans (hb.mono HB6a.out.size)); clear hb))
  go_ret
  exact ⟨rfl, HB8.out⟩
end Go.Proofs.YtmeopdjdjmjngaaGreatDoor.K
