/- SchemaBytes, walked. -/
import Derived.Test.YtmeopdjdjmjngaaGreatDoorRefN11
import Derived.Test.YtmeopdjdjmjngaaGreatDoorI5
set_option linter.unusedVariables false
set_option linter.unusedSimpArgs false
namespace Go.Proofs.YtmeopdjdjmjngaaGreatDoor.I
open Go.RowKit Go.Lib Go.Proofs.YtmeopdjdjmjngaaGreatDoorW.PrintWords Go.Proofs.YtmeopdjdjmjngaaGreatDoorW.PrintLast Go.Proofs.YtmeopdjdjmjngaaGreatDoorW.PrintMore Go.Proofs.YtmeopdjdjmjngaaGreatDoor.Cod
theorem w64D (a : Nat) (h : a ≤ 1000000000000000000) : wrap64 ((a : Int) + 1) = ((a + 1 : Nat) : Int) := by unfold wrap64; omega
theorem same_self_l (nm : ByteArray) (l : List AC) (hm : l.length ≤ 1000000000000000000) : ∀ (d k i : Nat), i + d = l.length → d < k → colonnaderef11_Same.l0 k (i : Int) nm l nm l = some true := by
  intro d
  induction d with
  | zero =>
    intro k i hi hk
    obtain ⟨k, rfl⟩ : ∃ m, k = m + 1 := ⟨k - 1, by omega⟩
    rw [colonnaderef11_Same.l0, if_neg (by omega)]
  | succ d ih =>
    intro k i hi hk
    obtain ⟨k, rfl⟩ : ∃ m, k = m + 1 := ⟨k - 1, by omega⟩
    rw [colonnaderef11_Same.l0, if_pos (by omega), if_pos (by omega), if_pos (by omega), if_neg (by simp), w64D i (by omega)]
    exact ih k (i + 1) (by omega) (by omega)
theorem same_self (nm : ByteArray) (l : List AC) (hm : l.length ≤ 1000000000000000000) (k : Nat) (hk : l.length + 2 < k) : colonnaderef11_Same.f k nm l nm l = some true := by
  obtain ⟨k, rfl⟩ : ∃ m, k = m + 1 := ⟨k - 1, by omega⟩
  unfold colonnaderef11_Same.f
  rw [if_pos rfl, colonnaderef11_Same.j0, if_neg (by simp)]
  exact same_self_l nm l hm l.length k 0 (by omega) (by omega)
set_option maxHeartbeats 8000000 in
set_option maxRecDepth 100000 in
theorem bytes_yy (k kf : Nat) (nm : ByteArray) (A0 : Option Addr) (c0 : Nat) (cols : List AC) (A1 : Option Addr) (c1 : Nat) (raw : List Int) (w : World) (hr0 : Kd.C k36 w A0 cols.length cols) (hc0 : cols.length ≤ c0) (hr1 : Kd.C (Kd.int .u8) w A1 raw.length raw) (hc1 : raw.length ≤ c1) (hrd : RdOk raw) (hlen : raw.length ≤ 140737488355327)
    (hk : 200 < k) (hbeg : colonnadelaw11_begun.f k = some true) (hG : Gl w) (hchk : schema_Check.f nm cols = some 0) (hchr : colonnaderef11_Check.f kf nm cols = some 0) (nm2 : ByteArray) (cols2 : List AC) (hchk2 : schema_Check.f nm2 cols2 = some 0) (kf2 : Nat) (hchr2 : colonnaderef11_Check.f kf2 nm2 cols2 = some 0) (he2 : raw = enc nm2 cols2) :
    Calls Tryz.prog 8 #[.agg #[.string nm, .slice A0 cols.length c0], .slice A1 raw.length c1] w fun e w' => e = .returned (.bool true) ∧ Below w.heap.size w w' := by
  have hu24 := Tryz.underlying24
  have HB0 := Aside0.mk (below_alloc (Below.refl w.heap.size w) (.cells #[.string nm, .slice A0 cols.length c0] 24))
  have HK0 := Aside0.mk (heap_alloc_new w (.cells #[.string nm, .slice A0 cols.length c0] 24))
  have CBG := Aside0.mk (fun (W : World) (hb : Below w.heap.size w W) => colonnadelaw11_begun.calls k true W hbeg (hG.of hb))
  have hok := Check_ok nm cols hchk
  have BY := Aside0.mk (fun (W : World) (hb : Below w.heap.size w W) => bytes_yes nm A0 c0 cols W (Kd.C_below hr0 hb) hc0 hchk hok)
  have BR := Aside0.mk (fun (W : World) (hb : Below w.heap.size w W) => ref_bytes_yes kf nm A0 c0 cols W (Kd.C_below hr0 hb) hc0 hchr hok)
  have EQ := Aside0.mk (fun (A : Option Addr) (c : Nat) (A' : Option Addr) (c' : Nat) (W : World) (hC : Kd.C (Kd.int .u8) W A (enc nm cols).length (enc nm cols)) (hc : (enc nm cols).length ≤ c) (hC' : Kd.C (Kd.int .u8) W A' (enc nm cols).length (enc nm cols)) (hc' : (enc nm cols).length ≤ c') => bytes_Equal.calls A c (enc nm cols) A' c' (enc nm cols) true W hC hc hC' hc' (by unfold bytes_Equal.f; simp))
  have hok2 := Check_ok nm2 cols2 hchk2
  have HS := Aside0.mk (same_self nm2 cols2 (by have := hok2.2.2.1; omega) k (by have := hok2.2.2.1; omega))
  have PA := Aside0.mk (fun (W : World) (hb : Below w.heap.size w W) => parse_yes nm2 cols2 A1 c1 raw W (Kd.C_below hr1 hb) hc1 hrd (by omega) hchk2 he2)
  have PR := Aside0.mk (fun (W : World) (hb : Below w.heap.size w W) => ref_parse_yes kf2 nm2 cols2 A1 c1 raw W (Kd.C_below hr1 hb) hc1 hrd hlen hchk2 hchr2 he2)
  have SM := Aside0.mk (fun (A : Option Addr) (c : Nat) (A' : Option Addr) (c' : Nat) (W : World) (hC : Kd.C k36 W A cols2.length cols2) (hc : cols2.length ≤ c) (hC' : Kd.C k36 W A' cols2.length cols2) (hc' : cols2.length ≤ c') => colonnaderef11_Same.calls k nm2 A c cols2 nm2 A' c' cols2 true W hC hc hC' hc' HS.out)
  clear hr0 hr1 hc0 hc1 hchk hchr hrd hlen hG hbeg hk hok hok2 hchk2 hchr2 he2
  go_enter Tryz.func8, Tryz.ntmps8
  go_wp2_with (first
    | (go_at_call 36; refine (BY.out _ HB0.out).mono ?_; rintro x w1 ⟨v1, rfl, ho, hb⟩; obtain ⟨A3, c3, e3, hc3, hC3⟩ := own_bytes ho; subst e3; have HB1 := Aside0.mk (HB0.out.trans (hb.mono HB0.out.size)); have HK1 := Aside0.mk ((hb.block w.heap.size (blk_lt HK0.out)).trans HK0.out); obtain ⟨x0, x1, xf⟩ := d36_facts HK1.out; have HC3 := Aside0.mk hc3; have HR3 := Aside0.mk hC3; clear ho hb hc3 hC3 BY)
    | (go_at_call 37; refine (BR.out _ HB1.out).mono ?_; rintro x w2 ⟨v2, rfl, ho, hb⟩; obtain ⟨A4, c4, e4, hc4, hC4⟩ := own_bytes ho; subst e4; have HB2 := Aside0.mk (HB1.out.trans (hb.mono HB1.out.size)); have HC4 := Aside0.mk hc4; have HR4 := Aside0.mk hC4; have HR3b := Aside0.mk (Kd.C_below HR3.out hb); clear ho hb hc4 hC4 BR x0 x1 xf)
    | (go_at_call 38; refine (PA.out _ HB2.out).mono ?_; rintro x w3 ⟨A5, c5, rfl, hc5, hC5, hb⟩; have HC5 := Aside0.mk hc5; have HR5 := Aside0.mk hC5; have HB3 := Aside0.mk (below_alloc (HB2.out.trans (hb.mono HB2.out.size)) (.cells #[.string nm2, .slice A5 cols2.length c5] 24)); have D3 := Aside0.mk (below_alloc hb (.cells #[.string nm2, .slice A5 cols2.length c5] 24)); have E3 := Aside0.mk (below_alloc (Below.refl w3.heap.size w3) (.cells #[.string nm2, .slice A5 cols2.length c5] 24)); have KX3 := Aside0.mk (heap_alloc_new w3 (.cells #[.string nm2, .slice A5 cols2.length c5] 24)); clear hb PA hc5 hC5)
    | (go_at_call 39; refine (PR.out _ HB3.out).mono ?_; rintro x w4 ⟨A6, c6, rfl, hc6, hC6, hb⟩; have HC6 := Aside0.mk hc6; have HR6 := Aside0.mk hC6; have HB4 := Aside0.mk (below_alloc (HB3.out.trans (hb.mono HB3.out.size)) (.cells #[.string nm2, .slice A6 cols2.length c6] 24)); have D4 := Aside0.mk (below_alloc (D3.out.trans (hb.mono D3.out.size)) (.cells #[.string nm2, .slice A6 cols2.length c6] 24)); have E4 := Aside0.mk (below_alloc (E3.out.trans (hb.mono E3.out.size)) (.cells #[.string nm2, .slice A6 cols2.length c6] 24)); have F4 := Aside0.mk (below_alloc (Below.refl w4.heap.size w4) (.cells #[.string nm2, .slice A6 cols2.length c6] 24)); have KX4 := Aside0.mk ((heap_alloc_old w4 (.cells #[.string nm2, .slice A6 cols2.length c6] 24) (Nat.lt_of_lt_of_le (blk_lt KX3.out) hb.size)).trans ((hb.block w3.heap.size (blk_lt KX3.out)).trans KX3.out)); have KY4 := Aside0.mk (heap_alloc_new w4 (.cells #[.string nm2, .slice A6 cols2.length c6] 24)); clear hb PR hc6 hC6)
    | (go_at_call 12; refine (CBG.out _ HB4.out).mono ?_; rintro x w5 ⟨rfl, hb⟩; have HB5 := Aside0.mk (HB4.out.trans (hb.mono HB4.out.size)); have D5 := Aside0.mk (D4.out.trans (hb.mono D4.out.size)); have E5 := Aside0.mk (E4.out.trans (hb.mono E4.out.size)); have F5 := Aside0.mk (F4.out.trans (hb.mono F4.out.size)); have KX5 := Aside0.mk ((hb.block _ (blk_lt KX4.out)).trans KX4.out); have KY5 := Aside0.mk ((hb.block _ (blk_lt KY4.out)).trans KY4.out); clear hb)
    | (go_at_call 40; refine (EQ.out A3 c3 A4 c4 w5 (Kd.C_below HR3b.out D5.out) HC3.out (Kd.C_below HR4.out D5.out) HC4.out).mono ?_; rintro x w6 ⟨rfl, hb⟩; have HB6 := Aside0.mk (HB5.out.trans (hb.below.mono HB5.out.size)); have E6 := Aside0.mk (E5.out.trans (hb.below.mono E5.out.size)); have F6 := Aside0.mk (F5.out.trans (hb.below.mono F5.out.size)); have KX6 := Aside0.mk ((hb.below.block _ (blk_lt KX5.out)).trans KX5.out); have KY6 := Aside0.mk ((hb.below.block _ (blk_lt KY5.out)).trans KY5.out); obtain ⟨x0, x1, xf⟩ := d36_facts KX6.out; obtain ⟨y0, y1, yf⟩ := d36_facts KY6.out; clear hb)
    | (go_at_call 31; refine (SM.out A5 c5 A6 c6 w6 (Kd.C_below HR5.out E6.out) HC5.out (Kd.C_below HR6.out F6.out) HC6.out).mono ?_; rintro x w7 ⟨rfl, hb⟩; have HB7 := Aside0.mk (HB6.out.trans (hb.mono HB6.out.size)); clear hb))
  go_ret
  exact ⟨rfl, HB7.out⟩
set_option maxHeartbeats 8000000 in
set_option maxRecDepth 100000 in
theorem bytes_yn (k kf : Nat) (nm : ByteArray) (A0 : Option Addr) (c0 : Nat) (cols : List AC) (A1 : Option Addr) (c1 : Nat) (raw : List Int) (w : World) (hr0 : Kd.C k36 w A0 cols.length cols) (hc0 : cols.length ≤ c0) (hr1 : Kd.C (Kd.int .u8) w A1 raw.length raw) (hc1 : raw.length ≤ c1) (hrd : RdOk raw) (hlen : raw.length ≤ 140737488355327)
    (hk : 200 < k) (hbeg : colonnadelaw11_begun.f k = some true) (hG : Gl w) (hchk : schema_Check.f nm cols = some 0) (hchr : colonnaderef11_Check.f kf nm cols = some 0) (hno : ∀ nm2 cols2, schema_Check.f nm2 cols2 = some 0 → raw = enc nm2 cols2 → False) :
    Calls Tryz.prog 8 #[.agg #[.string nm, .slice A0 cols.length c0], .slice A1 raw.length c1] w fun e w' => e = .returned (.bool true) ∧ Below w.heap.size w w' := by
  have hu24 := Tryz.underlying24
  have HB0 := Aside0.mk (below_alloc (Below.refl w.heap.size w) (.cells #[.string nm, .slice A0 cols.length c0] 24))
  have HK0 := Aside0.mk (heap_alloc_new w (.cells #[.string nm, .slice A0 cols.length c0] 24))
  have CBG := Aside0.mk (fun (W : World) (hb : Below w.heap.size w W) => colonnadelaw11_begun.calls k true W hbeg (hG.of hb))
  have hok := Check_ok nm cols hchk
  have BY := Aside0.mk (fun (W : World) (hb : Below w.heap.size w W) => bytes_yes nm A0 c0 cols W (Kd.C_below hr0 hb) hc0 hchk hok)
  have BR := Aside0.mk (fun (W : World) (hb : Below w.heap.size w W) => ref_bytes_yes kf nm A0 c0 cols W (Kd.C_below hr0 hb) hc0 hchr hok)
  have EQ := Aside0.mk (fun (A : Option Addr) (c : Nat) (A' : Option Addr) (c' : Nat) (W : World) (hC : Kd.C (Kd.int .u8) W A (enc nm cols).length (enc nm cols)) (hc : (enc nm cols).length ≤ c) (hC' : Kd.C (Kd.int .u8) W A' (enc nm cols).length (enc nm cols)) (hc' : (enc nm cols).length ≤ c') => bytes_Equal.calls A c (enc nm cols) A' c' (enc nm cols) true W hC hc hC' hc' (by unfold bytes_Equal.f; simp))
  have HS := Aside0.mk (same_self (⟨#[]⟩ : ByteArray) [] (by decide) k (by have : ([] : List AC).length = 0 := rfl; omega))
  have PA := Aside0.mk (fun (W : World) (hb : Below w.heap.size w W) => parse_no A1 c1 raw W (Kd.C_below hr1 hb) hc1 hrd (by omega) hno)
  have PR := Aside0.mk (fun (W : World) (hb : Below w.heap.size w W) => ref_parse_no A1 c1 raw W (Kd.C_below hr1 hb) hc1 hrd hlen hno)
  have SM := Aside0.mk (fun (W : World) => colonnaderef11_Same.calls k (⟨#[]⟩ : ByteArray) none 0 [] (⟨#[]⟩ : ByteArray) none 0 [] true W ⟨rfl, by decide, fun q => absurd q (Nat.lt_irrefl 0)⟩ (Nat.le_refl _) ⟨rfl, by decide, fun q => absurd q (Nat.lt_irrefl 0)⟩ (Nat.le_refl _) HS.out)
  clear hr0 hr1 hc0 hc1 hchk hchr hrd hlen hG hbeg hk hok hno
  go_enter Tryz.func8, Tryz.ntmps8
  go_wp2_with (first
    | (go_at_call 36; refine (BY.out _ HB0.out).mono ?_; rintro x w1 ⟨v1, rfl, ho, hb⟩; obtain ⟨A3, c3, e3, hc3, hC3⟩ := own_bytes ho; subst e3; have HB1 := Aside0.mk (HB0.out.trans (hb.mono HB0.out.size)); have HK1 := Aside0.mk ((hb.block w.heap.size (blk_lt HK0.out)).trans HK0.out); obtain ⟨x0, x1, xf⟩ := d36_facts HK1.out; have HC3 := Aside0.mk hc3; have HR3 := Aside0.mk hC3; clear ho hb hc3 hC3 BY)
    | (go_at_call 37; refine (BR.out _ HB1.out).mono ?_; rintro x w2 ⟨v2, rfl, ho, hb⟩; obtain ⟨A4, c4, e4, hc4, hC4⟩ := own_bytes ho; subst e4; have HB2 := Aside0.mk (HB1.out.trans (hb.mono HB1.out.size)); have HC4 := Aside0.mk hc4; have HR4 := Aside0.mk hC4; have HR3b := Aside0.mk (Kd.C_below HR3.out hb); clear ho hb hc4 hC4 BR x0 x1 xf)
    | (go_at_call 38; refine (PA.out _ HB2.out).mono ?_; rintro x w3 ⟨rfl, hb⟩; have HB3 := Aside0.mk (below_alloc (HB2.out.trans (hb.mono HB2.out.size)) (.cells #[.string (⟨#[]⟩ : ByteArray), .slice none 0 0] 24)); have D3 := Aside0.mk (below_alloc hb (.cells #[.string (⟨#[]⟩ : ByteArray), .slice none 0 0] 24)); have E3 := Aside0.mk (below_alloc (Below.refl w3.heap.size w3) (.cells #[.string (⟨#[]⟩ : ByteArray), .slice none 0 0] 24)); have KX3 := Aside0.mk (heap_alloc_new w3 (.cells #[.string (⟨#[]⟩ : ByteArray), .slice none 0 0] 24)); clear hb PA)
    | (go_at_call 39; refine (PR.out _ HB3.out).mono ?_; rintro x w4 ⟨rfl, hb⟩; have HB4 := Aside0.mk (below_alloc (HB3.out.trans (hb.mono HB3.out.size)) (.cells #[.string (⟨#[]⟩ : ByteArray), .slice none 0 0] 24)); have D4 := Aside0.mk (below_alloc (D3.out.trans (hb.mono D3.out.size)) (.cells #[.string (⟨#[]⟩ : ByteArray), .slice none 0 0] 24)); have E4 := Aside0.mk (below_alloc (E3.out.trans (hb.mono E3.out.size)) (.cells #[.string (⟨#[]⟩ : ByteArray), .slice none 0 0] 24)); have F4 := Aside0.mk (below_alloc (Below.refl w4.heap.size w4) (.cells #[.string (⟨#[]⟩ : ByteArray), .slice none 0 0] 24)); have KX4 := Aside0.mk ((heap_alloc_old w4 (.cells #[.string (⟨#[]⟩ : ByteArray), .slice none 0 0] 24) (Nat.lt_of_lt_of_le (blk_lt KX3.out) hb.size)).trans ((hb.block w3.heap.size (blk_lt KX3.out)).trans KX3.out)); have KY4 := Aside0.mk (heap_alloc_new w4 (.cells #[.string (⟨#[]⟩ : ByteArray), .slice none 0 0] 24)); clear hb PR)
    | (go_at_call 12; refine (CBG.out _ HB4.out).mono ?_; rintro x w5 ⟨rfl, hb⟩; have HB5 := Aside0.mk (HB4.out.trans (hb.mono HB4.out.size)); have D5 := Aside0.mk (D4.out.trans (hb.mono D4.out.size)); have E5 := Aside0.mk (E4.out.trans (hb.mono E4.out.size)); have F5 := Aside0.mk (F4.out.trans (hb.mono F4.out.size)); have KX5 := Aside0.mk ((hb.block _ (blk_lt KX4.out)).trans KX4.out); have KY5 := Aside0.mk ((hb.block _ (blk_lt KY4.out)).trans KY4.out); clear hb)
    | (go_at_call 40; refine (EQ.out A3 c3 A4 c4 w5 (Kd.C_below HR3b.out D5.out) HC3.out (Kd.C_below HR4.out D5.out) HC4.out).mono ?_; rintro x w6 ⟨rfl, hb⟩; have HB6 := Aside0.mk (HB5.out.trans (hb.below.mono HB5.out.size)); have E6 := Aside0.mk (E5.out.trans (hb.below.mono E5.out.size)); have F6 := Aside0.mk (F5.out.trans (hb.below.mono F5.out.size)); have KX6 := Aside0.mk ((hb.below.block _ (blk_lt KX5.out)).trans KX5.out); have KY6 := Aside0.mk ((hb.below.block _ (blk_lt KY5.out)).trans KY5.out); obtain ⟨x0, x1, xf⟩ := d36_facts KX6.out; obtain ⟨y0, y1, yf⟩ := d36_facts KY6.out; clear hb)
    | (go_at_call 31; refine (SM.out w6).mono ?_; rintro x w7 ⟨rfl, hb⟩; have HB7 := Aside0.mk (HB6.out.trans (hb.mono HB6.out.size)); clear hb))
  go_ret
  exact ⟨rfl, HB7.out⟩
set_option maxHeartbeats 8000000 in
set_option maxRecDepth 100000 in
theorem bytes_ny (k kf : Nat) (nm : ByteArray) (A0 : Option Addr) (c0 : Nat) (cols : List AC) (A1 : Option Addr) (c1 : Nat) (raw : List Int) (w : World) (hr0 : Kd.C k36 w A0 cols.length cols) (hc0 : cols.length ≤ c0) (hr1 : Kd.C (Kd.int .u8) w A1 raw.length raw) (hc1 : raw.length ≤ c1) (hrd : RdOk raw) (hlen : raw.length ≤ 140737488355327)
    (hk : 200 < k) (hbeg : colonnadelaw11_begun.f k = some true) (hG : Gl w) (rc : Int) (hrc : ¬ rc = 0) (hchk : schema_Check.f nm cols = some rc) (hchr : colonnaderef11_Check.f kf nm cols = some rc) (nm2 : ByteArray) (cols2 : List AC) (hchk2 : schema_Check.f nm2 cols2 = some 0) (kf2 : Nat) (hchr2 : colonnaderef11_Check.f kf2 nm2 cols2 = some 0) (he2 : raw = enc nm2 cols2) :
    Calls Tryz.prog 8 #[.agg #[.string nm, .slice A0 cols.length c0], .slice A1 raw.length c1] w fun e w' => e = .returned (.bool true) ∧ Below w.heap.size w w' := by
  have hu24 := Tryz.underlying24
  have HB0 := Aside0.mk (below_alloc (Below.refl w.heap.size w) (.cells #[.string nm, .slice A0 cols.length c0] 24))
  have HK0 := Aside0.mk (heap_alloc_new w (.cells #[.string nm, .slice A0 cols.length c0] 24))
  have CBG := Aside0.mk (fun (W : World) (hb : Below w.heap.size w W) => colonnadelaw11_begun.calls k true W hbeg (hG.of hb))
  have e1 : (rc != 0) = true := bne_iff_ne.mpr hrc
  have e2 : (rc == 0) = false := beq_eq_false_iff_ne.mpr hrc
  have BY := Aside0.mk (fun (W : World) (hb : Below w.heap.size w W) => bytes_no nm A0 c0 cols W (Kd.C_below hr0 hb) hc0 rc hchk hrc)
  have BR := Aside0.mk (fun (W : World) (hb : Below w.heap.size w W) => ref_bytes_no kf nm A0 c0 cols W (Kd.C_below hr0 hb) hc0 rc hchr hrc)
  have EQ := Aside0.mk (fun (W : World) => bytes_Equal.calls none 0 [] none 0 [] true W ⟨rfl, by decide, fun q => absurd q (Nat.lt_irrefl 0)⟩ (Nat.le_refl _) ⟨rfl, by decide, fun q => absurd q (Nat.lt_irrefl 0)⟩ (Nat.le_refl _) (by unfold bytes_Equal.f; simp))
  have hok2 := Check_ok nm2 cols2 hchk2
  have HS := Aside0.mk (same_self nm2 cols2 (by have := hok2.2.2.1; omega) k (by have := hok2.2.2.1; omega))
  have PA := Aside0.mk (fun (W : World) (hb : Below w.heap.size w W) => parse_yes nm2 cols2 A1 c1 raw W (Kd.C_below hr1 hb) hc1 hrd (by omega) hchk2 he2)
  have PR := Aside0.mk (fun (W : World) (hb : Below w.heap.size w W) => ref_parse_yes kf2 nm2 cols2 A1 c1 raw W (Kd.C_below hr1 hb) hc1 hrd hlen hchk2 hchr2 he2)
  have SM := Aside0.mk (fun (A : Option Addr) (c : Nat) (A' : Option Addr) (c' : Nat) (W : World) (hC : Kd.C k36 W A cols2.length cols2) (hc : cols2.length ≤ c) (hC' : Kd.C k36 W A' cols2.length cols2) (hc' : cols2.length ≤ c') => colonnaderef11_Same.calls k nm2 A c cols2 nm2 A' c' cols2 true W hC hc hC' hc' HS.out)
  clear hr0 hr1 hc0 hc1 hchk hchr hrd hlen hG hbeg hk hrc hok2 hchk2 hchr2 he2
  go_enter Tryz.func8, Tryz.ntmps8
  go_wp2_with (first
    | (go_at_call 36; refine (BY.out _ HB0.out).mono ?_; rintro x w1 ⟨rfl, hb⟩; have HB1 := Aside0.mk (HB0.out.trans (hb.mono HB0.out.size)); have HK1 := Aside0.mk ((hb.block w.heap.size (blk_lt HK0.out)).trans HK0.out); obtain ⟨x0, x1, xf⟩ := d36_facts HK1.out; clear hb BY)
    | (go_at_call 37; refine (BR.out _ HB1.out).mono ?_; rintro x w2 ⟨rfl, hb⟩; have HB2 := Aside0.mk (HB1.out.trans (hb.mono HB1.out.size)); clear hb BR x0 x1 xf)
    | (go_at_call 38; refine (PA.out _ HB2.out).mono ?_; rintro x w3 ⟨A5, c5, rfl, hc5, hC5, hb⟩; have HC5 := Aside0.mk hc5; have HR5 := Aside0.mk hC5; have HB3 := Aside0.mk (below_alloc (HB2.out.trans (hb.mono HB2.out.size)) (.cells #[.string nm2, .slice A5 cols2.length c5] 24)); have D3 := Aside0.mk (below_alloc hb (.cells #[.string nm2, .slice A5 cols2.length c5] 24)); have E3 := Aside0.mk (below_alloc (Below.refl w3.heap.size w3) (.cells #[.string nm2, .slice A5 cols2.length c5] 24)); have KX3 := Aside0.mk (heap_alloc_new w3 (.cells #[.string nm2, .slice A5 cols2.length c5] 24)); clear hb PA hc5 hC5)
    | (go_at_call 39; refine (PR.out _ HB3.out).mono ?_; rintro x w4 ⟨A6, c6, rfl, hc6, hC6, hb⟩; have HC6 := Aside0.mk hc6; have HR6 := Aside0.mk hC6; have HB4 := Aside0.mk (below_alloc (HB3.out.trans (hb.mono HB3.out.size)) (.cells #[.string nm2, .slice A6 cols2.length c6] 24)); have D4 := Aside0.mk (below_alloc (D3.out.trans (hb.mono D3.out.size)) (.cells #[.string nm2, .slice A6 cols2.length c6] 24)); have E4 := Aside0.mk (below_alloc (E3.out.trans (hb.mono E3.out.size)) (.cells #[.string nm2, .slice A6 cols2.length c6] 24)); have F4 := Aside0.mk (below_alloc (Below.refl w4.heap.size w4) (.cells #[.string nm2, .slice A6 cols2.length c6] 24)); have KX4 := Aside0.mk ((heap_alloc_old w4 (.cells #[.string nm2, .slice A6 cols2.length c6] 24) (Nat.lt_of_lt_of_le (blk_lt KX3.out) hb.size)).trans ((hb.block w3.heap.size (blk_lt KX3.out)).trans KX3.out)); have KY4 := Aside0.mk (heap_alloc_new w4 (.cells #[.string nm2, .slice A6 cols2.length c6] 24)); clear hb PR hc6 hC6)
    | (go_at_call 12; refine (CBG.out _ HB4.out).mono ?_; rintro x w5 ⟨rfl, hb⟩; have HB5 := Aside0.mk (HB4.out.trans (hb.mono HB4.out.size)); have D5 := Aside0.mk (D4.out.trans (hb.mono D4.out.size)); have E5 := Aside0.mk (E4.out.trans (hb.mono E4.out.size)); have F5 := Aside0.mk (F4.out.trans (hb.mono F4.out.size)); have KX5 := Aside0.mk ((hb.block _ (blk_lt KX4.out)).trans KX4.out); have KY5 := Aside0.mk ((hb.block _ (blk_lt KY4.out)).trans KY4.out); clear hb)
    | (go_at_call 40; refine (EQ.out w5).mono ?_; rintro x w6 ⟨rfl, hb⟩; have HB6 := Aside0.mk (HB5.out.trans (hb.below.mono HB5.out.size)); have E6 := Aside0.mk (E5.out.trans (hb.below.mono E5.out.size)); have F6 := Aside0.mk (F5.out.trans (hb.below.mono F5.out.size)); have KX6 := Aside0.mk ((hb.below.block _ (blk_lt KX5.out)).trans KX5.out); have KY6 := Aside0.mk ((hb.below.block _ (blk_lt KY5.out)).trans KY5.out); obtain ⟨x0, x1, xf⟩ := d36_facts KX6.out; obtain ⟨y0, y1, yf⟩ := d36_facts KY6.out; clear hb)
    | (go_at_call 31; refine (SM.out A5 c5 A6 c6 w6 (Kd.C_below HR5.out E6.out) HC5.out (Kd.C_below HR6.out F6.out) HC6.out).mono ?_; rintro x w7 ⟨rfl, hb⟩; have HB7 := Aside0.mk (HB6.out.trans (hb.mono HB6.out.size)); clear hb))
  go_ret
  exact ⟨rfl, HB7.out⟩
set_option maxHeartbeats 8000000 in
set_option maxRecDepth 100000 in
theorem bytes_nn (k kf : Nat) (nm : ByteArray) (A0 : Option Addr) (c0 : Nat) (cols : List AC) (A1 : Option Addr) (c1 : Nat) (raw : List Int) (w : World) (hr0 : Kd.C k36 w A0 cols.length cols) (hc0 : cols.length ≤ c0) (hr1 : Kd.C (Kd.int .u8) w A1 raw.length raw) (hc1 : raw.length ≤ c1) (hrd : RdOk raw) (hlen : raw.length ≤ 140737488355327)
    (hk : 200 < k) (hbeg : colonnadelaw11_begun.f k = some true) (hG : Gl w) (rc : Int) (hrc : ¬ rc = 0) (hchk : schema_Check.f nm cols = some rc) (hchr : colonnaderef11_Check.f kf nm cols = some rc) (hno : ∀ nm2 cols2, schema_Check.f nm2 cols2 = some 0 → raw = enc nm2 cols2 → False) :
    Calls Tryz.prog 8 #[.agg #[.string nm, .slice A0 cols.length c0], .slice A1 raw.length c1] w fun e w' => e = .returned (.bool true) ∧ Below w.heap.size w w' := by
  have hu24 := Tryz.underlying24
  have HB0 := Aside0.mk (below_alloc (Below.refl w.heap.size w) (.cells #[.string nm, .slice A0 cols.length c0] 24))
  have HK0 := Aside0.mk (heap_alloc_new w (.cells #[.string nm, .slice A0 cols.length c0] 24))
  have CBG := Aside0.mk (fun (W : World) (hb : Below w.heap.size w W) => colonnadelaw11_begun.calls k true W hbeg (hG.of hb))
  have e1 : (rc != 0) = true := bne_iff_ne.mpr hrc
  have e2 : (rc == 0) = false := beq_eq_false_iff_ne.mpr hrc
  have BY := Aside0.mk (fun (W : World) (hb : Below w.heap.size w W) => bytes_no nm A0 c0 cols W (Kd.C_below hr0 hb) hc0 rc hchk hrc)
  have BR := Aside0.mk (fun (W : World) (hb : Below w.heap.size w W) => ref_bytes_no kf nm A0 c0 cols W (Kd.C_below hr0 hb) hc0 rc hchr hrc)
  have EQ := Aside0.mk (fun (W : World) => bytes_Equal.calls none 0 [] none 0 [] true W ⟨rfl, by decide, fun q => absurd q (Nat.lt_irrefl 0)⟩ (Nat.le_refl _) ⟨rfl, by decide, fun q => absurd q (Nat.lt_irrefl 0)⟩ (Nat.le_refl _) (by unfold bytes_Equal.f; simp))
  have HS := Aside0.mk (same_self (⟨#[]⟩ : ByteArray) [] (by decide) k (by have : ([] : List AC).length = 0 := rfl; omega))
  have PA := Aside0.mk (fun (W : World) (hb : Below w.heap.size w W) => parse_no A1 c1 raw W (Kd.C_below hr1 hb) hc1 hrd (by omega) hno)
  have PR := Aside0.mk (fun (W : World) (hb : Below w.heap.size w W) => ref_parse_no A1 c1 raw W (Kd.C_below hr1 hb) hc1 hrd hlen hno)
  have SM := Aside0.mk (fun (W : World) => colonnaderef11_Same.calls k (⟨#[]⟩ : ByteArray) none 0 [] (⟨#[]⟩ : ByteArray) none 0 [] true W ⟨rfl, by decide, fun q => absurd q (Nat.lt_irrefl 0)⟩ (Nat.le_refl _) ⟨rfl, by decide, fun q => absurd q (Nat.lt_irrefl 0)⟩ (Nat.le_refl _) HS.out)
  clear hr0 hr1 hc0 hc1 hchk hchr hrd hlen hG hbeg hk hrc hno
  go_enter Tryz.func8, Tryz.ntmps8
  go_wp2_with (first
    | (go_at_call 36; refine (BY.out _ HB0.out).mono ?_; rintro x w1 ⟨rfl, hb⟩; have HB1 := Aside0.mk (HB0.out.trans (hb.mono HB0.out.size)); have HK1 := Aside0.mk ((hb.block w.heap.size (blk_lt HK0.out)).trans HK0.out); obtain ⟨x0, x1, xf⟩ := d36_facts HK1.out; clear hb BY)
    | (go_at_call 37; refine (BR.out _ HB1.out).mono ?_; rintro x w2 ⟨rfl, hb⟩; have HB2 := Aside0.mk (HB1.out.trans (hb.mono HB1.out.size)); clear hb BR x0 x1 xf)
    | (go_at_call 38; refine (PA.out _ HB2.out).mono ?_; rintro x w3 ⟨rfl, hb⟩; have HB3 := Aside0.mk (below_alloc (HB2.out.trans (hb.mono HB2.out.size)) (.cells #[.string (⟨#[]⟩ : ByteArray), .slice none 0 0] 24)); have D3 := Aside0.mk (below_alloc hb (.cells #[.string (⟨#[]⟩ : ByteArray), .slice none 0 0] 24)); have E3 := Aside0.mk (below_alloc (Below.refl w3.heap.size w3) (.cells #[.string (⟨#[]⟩ : ByteArray), .slice none 0 0] 24)); have KX3 := Aside0.mk (heap_alloc_new w3 (.cells #[.string (⟨#[]⟩ : ByteArray), .slice none 0 0] 24)); clear hb PA)
    | (go_at_call 39; refine (PR.out _ HB3.out).mono ?_; rintro x w4 ⟨rfl, hb⟩; have HB4 := Aside0.mk (below_alloc (HB3.out.trans (hb.mono HB3.out.size)) (.cells #[.string (⟨#[]⟩ : ByteArray), .slice none 0 0] 24)); have D4 := Aside0.mk (below_alloc (D3.out.trans (hb.mono D3.out.size)) (.cells #[.string (⟨#[]⟩ : ByteArray), .slice none 0 0] 24)); have E4 := Aside0.mk (below_alloc (E3.out.trans (hb.mono E3.out.size)) (.cells #[.string (⟨#[]⟩ : ByteArray), .slice none 0 0] 24)); have F4 := Aside0.mk (below_alloc (Below.refl w4.heap.size w4) (.cells #[.string (⟨#[]⟩ : ByteArray), .slice none 0 0] 24)); have KX4 := Aside0.mk ((heap_alloc_old w4 (.cells #[.string (⟨#[]⟩ : ByteArray), .slice none 0 0] 24) (Nat.lt_of_lt_of_le (blk_lt KX3.out) hb.size)).trans ((hb.block w3.heap.size (blk_lt KX3.out)).trans KX3.out)); have KY4 := Aside0.mk (heap_alloc_new w4 (.cells #[.string (⟨#[]⟩ : ByteArray), .slice none 0 0] 24)); clear hb PR)
    | (go_at_call 12; refine (CBG.out _ HB4.out).mono ?_; rintro x w5 ⟨rfl, hb⟩; have HB5 := Aside0.mk (HB4.out.trans (hb.mono HB4.out.size)); have D5 := Aside0.mk (D4.out.trans (hb.mono D4.out.size)); have E5 := Aside0.mk (E4.out.trans (hb.mono E4.out.size)); have F5 := Aside0.mk (F4.out.trans (hb.mono F4.out.size)); have KX5 := Aside0.mk ((hb.block _ (blk_lt KX4.out)).trans KX4.out); have KY5 := Aside0.mk ((hb.block _ (blk_lt KY4.out)).trans KY4.out); clear hb)
    | (go_at_call 40; refine (EQ.out w5).mono ?_; rintro x w6 ⟨rfl, hb⟩; have HB6 := Aside0.mk (HB5.out.trans (hb.below.mono HB5.out.size)); have E6 := Aside0.mk (E5.out.trans (hb.below.mono E5.out.size)); have F6 := Aside0.mk (F5.out.trans (hb.below.mono F5.out.size)); have KX6 := Aside0.mk ((hb.below.block _ (blk_lt KX5.out)).trans KX5.out); have KY6 := Aside0.mk ((hb.below.block _ (blk_lt KY5.out)).trans KY5.out); obtain ⟨x0, x1, xf⟩ := d36_facts KX6.out; obtain ⟨y0, y1, yf⟩ := d36_facts KY6.out; clear hb)
    | (go_at_call 31; refine (SM.out w6).mono ?_; rintro x w7 ⟨rfl, hb⟩; have HB7 := Aside0.mk (HB6.out.trans (hb.mono HB6.out.size)); clear hb))
  go_ret
  exact ⟨rfl, HB7.out⟩
end Go.Proofs.YtmeopdjdjmjngaaGreatDoor.I
