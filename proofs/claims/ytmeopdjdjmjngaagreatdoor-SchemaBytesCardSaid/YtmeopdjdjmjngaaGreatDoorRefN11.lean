/- the reference's schema.Parse at bytes that are no definition's. -/
import Derived.Test.YtmeopdjdjmjngaaGreatDoorRefP11
import Derived.Test.YtmeopdjdjmjngaaGreatDoorPureChk11
import Derived.Test.YtmeopdjdjmjngaaGreatDoorStrB
set_option linter.unusedVariables false
set_option linter.unusedSimpArgs false
namespace Go.Proofs.YtmeopdjdjmjngaaGreatDoor.I
open Go.RowKit Go.Lib Go.Proofs.YtmeopdjdjmjngaaGreatDoorW.PrintWords Go.Proofs.YtmeopdjdjmjngaaGreatDoorW.PrintLast Go.Proofs.YtmeopdjdjmjngaaGreatDoorW.PrintMore Go.Proofs.YtmeopdjdjmjngaaGreatDoor.Cod
theorem app_cols {ops : Array Oper} {rest : List Oper} {o : Oper} {a : Act} {Q : Exit → Act → World → Prop} {w8 : World} (hgd : o.guard = none) (s x : Operand) (ho : o.op = .call { callee := .builtin .append, args := #[s, x], argTypes := #[22, 22] })
    (D i : Nat) (v : Value) (l : List AC) (cc : AC) (hs : a.eval s = v) (HO : w8.ownsRow (D + 1) 36 4 v i (l.flatMap cC)) (hx : a.eval x = .slice (some ⟨w8.heap.size, 0, none⟩) 1 1) (hi : i ≤ 100) (hD : D + 1 ≤ w8.heap.size)
    (h : ∀ A9 c9 w9, w9.ownsRow (D + 1) 36 4 (.slice A9 (i + 1) c9) (i + 1) ((l ++ [cc]).flatMap cC) → Only (fun k => D + 1 ≤ k) w8 w9 → wpList Tryz.prog ops Q rest (a.put o.dst (.slice A9 (i + 1) c9)) w9) :
    wpList Tryz.prog ops Q (o :: rest) a (w8.alloc (.cells #[.string cc.f0, .int .i64 cc.f1.f0, .int .i64 cc.f1.f1, .bool cc.f2] 36)) := by
  obtain ⟨i0, hi0, hz0, hzs, hzb⟩ := info_parts info36
  have HOa : (w8.alloc (.cells #[.string cc.f0, .int .i64 cc.f1.f0, .int .i64 cc.f1.f1, .bool cc.f2] 36)).ownsRow (D + 1) 36 4 v i (l.flatMap cC) := own_move HO (fun k hk => heap_alloc_old _ _ (own_lt HO k hk))
  refine wpList_append_own _ hgd s x 22 ho (D + 1) 36 i0 (.agg #[(.string ⟨#[]⟩), (.int .i64 0), (.int .i64 0), (.bool false)]) 4 40 Tryz.underlying22 hi0 hz0 hzs hzb rfl (by decide) v i _ hs HOa ⟨w8.heap.size, 0, none⟩ 1 1 (cC cc) hx rfl ?_ ?_ (by unfold maxLen; omega) (by omega) (by simp; omega) ?_
  · intro j u hj
    rw [Addr.add_lit, Nat.zero_add]
    have hn := heap_alloc_new w8 (.cells #[.string cc.f0, .int .i64 cc.f1.f0, .int .i64 cc.f1.f1, .bool cc.f2] 36)
    unfold World.cell?
    rw [hn]
    rw [← hj]
    show (#[Value.string cc.f0, .int .i64 cc.f1.f0, .int .i64 cc.f1.f1, .bool cc.f2] : Array Value)[j]? = _
    simp [cC]
  · intro u hu
    simp [cC] at hu
    rcases hu with rfl | rfl | rfl | rfl <;> rfl
  · intro v9 w9 hown hgrow _
    obtain ⟨A9, c9, e⟩ := own_slice hown
    subst e
    refine h A9 c9 w9 (by rw [List.flatMap_append]; simpa using hown) ⟨hgrow.os, hgrow.tape, hgrow.output, by have := hgrow.size; simp at this; omega, fun k hk hne => (hgrow.block k (by simp; omega) (fun q => by have := own_base HOa k q.symm; omega)).trans (heap_alloc_old _ _ hk)⟩
theorem strOf_size (l : List Int) : (strOf l).size = l.length := by
  show (Lib.bytesOf l).toArray.size = _
  unfold Lib.bytesOf
  simp
theorem chk_any (nm : ByteArray) (l : List AC) (hl : l.length ≤ 100) (hn : nm.size ≤ 140737488355328) (hs : ∀ x ∈ l, x.f0.size ≤ 140737488355328) : ∃ r, schema_Check.f nm l = some r ∧ colonnaderef11_Check.f 140737488399999 nm l = some r :=
  Pure.Check_both l nm 140737488355328 (by omega) (by omega) hn hs 140737488399999 (by omega)
theorem ref_bytes_any (nm : ByteArray) (A1 : Option Addr) (c1 : Nat) (cols : List AC) (w : World) (hr1 : Kd.C k36 w A1 cols.length cols) (hc1 : cols.length ≤ c1) (hl : cols.length ≤ 100) (hn : nm.size ≤ 140737488355328) (hs : ∀ x ∈ cols, x.f0.size ≤ 140737488355328) :
    Calls Tryz.prog 37 #[.agg #[.string nm, .slice A1 cols.length c1]] w fun e w' => ∃ A m c r, e = .returned (.tuple #[.slice A m c, .int .i64 r]) ∧ Below w.heap.size w w' := by
  obtain ⟨r, h1, h2⟩ := chk_any nm cols hl hn hs
  by_cases hz : r = 0
  · subst hz
    refine (ref_bytes_yes _ nm A1 c1 cols w hr1 hc1 h2 (Check_ok nm cols h1)).mono ?_
    rintro e w1 ⟨v, rfl, ho, hb⟩
    obtain ⟨A, c, e⟩ := own_slice ho
    subst e
    exact ⟨_, _, _, _, rfl, hb⟩
  · refine (ref_bytes_no _ nm A1 c1 cols w hr1 hc1 r h2 hz).mono ?_
    rintro e w1 ⟨rfl, hb⟩
    exact ⟨_, _, _, _, rfl, hb⟩
theorem three (f1 f2 n : Int) : (f1 = 0 ∧ f2 = 0 ∧ decide (n ≤ 32) = true) ∨ (f1 = 0 ∧ f2 = 0 ∧ decide (n ≤ 32) = false) ∨ ¬ (f1 = 0 ∧ f2 = 0) := by
  by_cases h : f1 = 0 ∧ f2 = 0
  · by_cases q : n ≤ 32
    · exact .inl ⟨h.1, h.2, decide_eq_true q⟩
    · exact .inr (.inl ⟨h.1, h.2, decide_eq_false q⟩)
  · exact .inr (.inr h)
theorem str_ne {xs ys : List Int} (hx : RdOk xs) (hy : RdOk ys) (h : ¬ xs = ys) : ¬ (strOf xs).toList = (strOf ys).toList := fun e => by
  rw [Go.Proofs.YtmeopdjdjmjngaaGreatDoor.Str.toList_eq, Go.Proofs.YtmeopdjdjmjngaaGreatDoor.Str.toList_eq] at e
  have e2 : Lib.bytesOf xs = Lib.bytesOf ys := e
  exact h (bytes_inj _ _ (mem_rdok hx) (mem_rdok hy) e2)
def PN (W : World) (e : Ending) (w' : World) : Prop := e = .returned (.tuple #[.agg #[.string ⟨#[]⟩, .slice none 0 0], .int .i64 111]) ∧ Below W.heap.size W w'
set_option maxHeartbeats 8000000 in
set_option maxRecDepth 100000 in
theorem ref_parse_no (A : Option Addr) (c : Nat) (raw : List Int) (W : World) (hA : Kd.C (Kd.int .u8) W A raw.length raw) (hc : raw.length ≤ c) (hr : RdOk raw) (hlen : raw.length ≤ 140737488355327) (hno : ∀ nm cols, schema_Check.f nm cols = some 0 → raw = enc nm cols → False) :
    Calls Tryz.prog 39 #[.slice A raw.length c] W (PN W) := by
  have hu24 := Tryz.underlying24
  have hu36 := Tryz.underlying36
  have hu34 := Tryz.underlying34
  have hu22 := Tryz.underlying22
  have hu108 := Tryz.underlying108
  have HRA := Aside0.mk (rowAt_of hA)
  have HRR := Aside0.mk hr
  have HB0 := Aside0.mk (below_alloc (Below.refl W.heap.size W) (.cells #[.string (⟨#[]⟩ : ByteArray), .slice none 0 0] 24))
  have HK0 := Aside0.mk (heap_alloc_new W (.cells #[.string (⟨#[]⟩ : ByteArray), .slice none 0 0] 24))
  have HA := Aside0.mk hA
  have HC := Aside0.mk hc
  have HNO := Aside0.mk hno
  have HLT := Aside0.mk (show ∀ ad, A = some ad → 0 < raw.length → ad.block < W.heap.size from fun ad e hp => by
    obtain ⟨ad', e', hc'⟩ := HRA.out 0 hp
    obtain rfl := Option.some.inj (e.symm.trans e')
    have := cell_lt hc'
    rwa [Cod.add_block] at this)
  have HB3 := Aside0.mk (below_alloc (below_alloc HB0.out (.cells #[.slice A raw.length c] 108)) (.cells #[.string (⟨#[]⟩ : ByteArray), .slice none 0 0] 24))
  have HR3 : Aside0 (RS (((W.alloc (.cells #[.string (⟨#[]⟩ : ByteArray), .slice none 0 0] 24)).alloc (.cells #[.slice A raw.length c] 108)).alloc (.cells #[.string (⟨#[]⟩ : ByteArray), .slice none 0 0] 24)) (W.heap.size + 1 + 1) (W.heap.size + 1) raw) := ⟨⟨hr, hlen, ⟨by omega, by simp⟩, A, c, by
    have h := heap_alloc_new (W.alloc (.cells #[.string (⟨#[]⟩ : ByteArray), .slice none 0 0] 24)) (.cells #[.slice A raw.length c] 108)
    have hz : (W.alloc (.cells #[.string (⟨#[]⟩ : ByteArray), .slice none 0 0] 24)).heap.size = W.heap.size + 1 := by simp
    rw [hz] at h
    exact (heap_alloc_old _ _ (blk_lt h)).trans h, HC.out, HRA.out.below HB3.out, fun ad e hp => by have := HLT.out ad e hp; omega⟩⟩
  have HD3 : Aside0 ((((W.alloc (.cells #[.string (⟨#[]⟩ : ByteArray), .slice none 0 0] 24)).alloc (.cells #[.slice A raw.length c] 108)).alloc (.cells #[.string (⟨#[]⟩ : ByteArray), .slice none 0 0] 24)).heap[W.heap.size + 1 + 1]? = some (.cells #[.string (⟨#[]⟩ : ByteArray), .slice none 0 0] 24 (0, 0))) := ⟨by
    have h := heap_alloc_new ((W.alloc (.cells #[.string (⟨#[]⟩ : ByteArray), .slice none 0 0] 24)).alloc (.cells #[.slice A raw.length c] 108)) (.cells #[.string (⟨#[]⟩ : ByteArray), .slice none 0 0] 24)
    have hz : ((W.alloc (.cells #[.string (⟨#[]⟩ : ByteArray), .slice none 0 0] 24)).alloc (.cells #[.slice A raw.length c] 108)).heap.size = W.heap.size + 1 + 1 := by simp
    rw [hz] at h
    exact h⟩
  have HK3 : Aside0 ((((W.alloc (.cells #[.string (⟨#[]⟩ : ByteArray), .slice none 0 0] 24)).alloc (.cells #[.slice A raw.length c] 108)).alloc (.cells #[.string (⟨#[]⟩ : ByteArray), .slice none 0 0] 24)).heap[W.heap.size]? = some (.cells #[.string (⟨#[]⟩ : ByteArray), .slice none 0 0] 24 (0, 0))) := ⟨(heap_alloc_old _ _ (by simp; omega)).trans ((heap_alloc_old _ _ (by simp)).trans HK0.out)⟩
  have HSZ := Aside0.mk (show (((W.alloc (.cells #[.string (⟨#[]⟩ : ByteArray), .slice none 0 0] 24)).alloc (.cells #[.slice A raw.length c] 108)).alloc (.cells #[.string (⟨#[]⟩ : ByteArray), .slice none 0 0] 24)).heap.size = W.heap.size + 1 + 1 + 1 by simp)
  clear hA hc hno hr hlen
  go_enter Tryz.func39, Tryz.ntmps39
  have HGB0 := Aside0.mk (show W.heap.size < W.heap.size + 1 ∧ W.heap.size + 1 < W.heap.size + 1 + 1 by omega)
  go_wp2_with (first
    | (go_at_call 77; refine (r3bytes_calls HR3.out).mono ?_; rintro e w4 ⟨A4, c4, out, f1, ys, rfl, hra, hng, hro, hol, hrs, ho, -⟩; have HR4 := Aside0.mk hrs; have HRA4 := Aside0.mk hra; have HNG4 := Aside0.mk hng; have HRO4 := Aside0.mk hro; have HOL4 := Aside0.mk (show out.length ≤ 140737488355327 from Nat.le_trans hol HR3.out.2.1); have HD4 := Aside0.mk ((ho.block (W.heap.size + 1 + 1) (by rw [HSZ.out]; omega) (by omega)).trans HD3.out); have HK4 := Aside0.mk ((ho.block W.heap.size (by rw [HSZ.out]; omega) (by omega)).trans HK3.out); have HB4 := Aside0.mk (HB3.out.trans (ho.below (base := W.heap.size) (fun k q => by omega) HB3.out.size)); have HS4 := Aside0.mk (show W.heap.size + 1 + 1 + 1 ≤ w4.heap.size from by have := ho.size; rw [HSZ.out] at this; exact this); clear hra hng hro hol hrs ho HR3 HD3 HK3 HB3 HSZ HLT; have HGB := HGB0; clear HGB0; generalize hD : W.heap.size + 1 + 1 = D at HR4 HD4 HS4 HGB ⊢; generalize hg : W.heap.size + 1 = g at HR4 HNG4 HGB ⊢; clear hD hg)
    | (go_at_call 78; refine (r3int_calls HR4.out).mono ?_; rintro e w5 ⟨n, f2, ys5, rfl, hrs, ho, -⟩; have HR5 := Aside0.mk hrs; have hcv := str_conv w5 A4 c4 out (HRA4.out.only ho (fun ad e _ q => HNG4.out ad e q)) HRO4.out; obtain ⟨nm, hnm⟩ : ∃ nm, nm = strOf out := ⟨_, rfl⟩; rw [← hnm] at hcv; have HNM := Aside0.mk (show nm.size ≤ 140737488355328 by rw [hnm, strOf_size]; have := HOL4.out; omega); have HD5 := Aside0.mk ((ho.block D (blk_lt HD4.out) (by have := HGB.out; omega)).trans HD4.out); have HK5 := Aside0.mk ((ho.block W.heap.size (blk_lt HK4.out) (by have := HGB.out; omega)).trans HK4.out); have HB5 := Aside0.mk (HB4.out.trans (ho.below (base := W.heap.size) (fun k q => by have := HGB.out; omega) HB4.out.size)); have HS5 := Aside0.mk (Nat.le_trans HS4.out ho.size); obtain ⟨d0, d1, df⟩ := d36_facts HD5.out; clear hrs ho hnm HR4 HRA4 HNG4 HRO4 HD4 HK4 HB4 HS4 HOL4; rcases three f1 f2 n with ⟨p1, p2, c32⟩ | ⟨p1, p2, c32⟩ | hq; all_goals (try (subst p1; subst p2))))
  · skip
    have HP3 := Aside0.mk (of_decide_eq_true c32)
    have HR6 := Aside0.mk (HR5.out.only ((Only.of_below (S := fun j => j = D) (Below.refl _ w5)).setCell D 0 rfl (.string nm)) (fun k hk q => by have hq : k = D := q; omega))
    have HD6 := Aside0.mk (blk_set HD5.out 0 (.string nm))
    have HB6 := Aside0.mk (HB5.out.setCell (p := ⟨D, 0, none⟩) (by have := HGB.out; show W.heap.size ≤ D; omega) (.string nm))
    have HK6 := Aside0.mk ((Below.heap_setCell w5 ⟨D, 0, none⟩ (.string nm) W.heap.size (by have := HGB.out; show W.heap.size ≠ D; omega)).trans HK5.out)
    have HS6 := Aside0.mk (show D + 1 ≤ (w5.setCell ⟨D, 0, none⟩ (.string nm)).heap.size by simpa using HS5.out)
    clear HR5 HD5 HB5 HK5 HS5 d0 d1 df hcv c32
    go_loopg [10, 11] 40 (fun kq v10 v11 w' => ∃ (i : Nat) (v : Value) (l : List AC) (ys : List Int) (okb : Bool), v10 = .bool okb ∧ v11 = .int .i64 (i : Int) ∧ Aside0 (i + kq = 40 ∧ i ≤ 33) ∧ Aside0 (l.length = i) ∧ Aside0 (∀ x ∈ l, x.f0.size ≤ 140737488355328) ∧ Aside0 (RS w' D g ys) ∧ Aside0 (w'.heap[D]? = some (.cells #[.string nm, v] 24 (0, 0))) ∧ Aside0 (w'.ownsRow (D + 1) 36 4 v i (l.flatMap cC)) ∧ Aside0 (Below W.heap.size W w') ∧ Aside0 (w'.heap[W.heap.size]? = some (.cells #[.string (⟨#[]⟩ : ByteArray), .slice none 0 0] 24 (0, 0))) ∧ Aside0 (D + 1 ≤ w'.heap.size))
    case atStart => exact ⟨0, _, [], _, _, rfl, rfl, ⟨⟨by omega, by omega⟩⟩, ⟨rfl⟩, ⟨fun x hx => by cases hx⟩, HR6, HD6, ⟨own_nil _ _ _ _⟩, HB6, HK6, HS6⟩
    case round =>
      obtain ⟨i, v, l, ys, okb, rfl, rfl, HI, HLL, HNS, HRr, HDr, HOr, HBr, HKr, HLr⟩ := hrel
      obtain ⟨Av, cv, e⟩ := own_slice HOr.out
      subst e
      by_cases hcont : okb = true ∧ (i : Int) < n
      · obtain ⟨hok, hin⟩ := hcont
        subst hok
        have c0 : decide ((i : Int) < n) = true := decide_eq_true hin
        cases gk with
        | zero => exact absurd HI.out (by omega)
        | succ k1 =>
          have hi32 : i ≤ 31 := by have := HP3.out; omega
          have HW64 := Aside0.mk (show wrap64 ((i : Int) + 1) = ((i + 1 : Nat) : Int) by unfold wrap64; omega)
          go_wp2_with (first
            | (go_at_call 77; refine (r3bytes_calls HRr.out).mono ?_; rintro e w6 ⟨A5, c5, out5, f5, ys5, rfl, hra, hng, hro, hol, hrs, ho, -⟩; have HR5 := Aside0.mk hrs; have HO5 := Aside0.mk ho; have HRA5 := Aside0.mk hra; have HNG5 := Aside0.mk hng; have HRO5 := Aside0.mk hro; have HOL5 := Aside0.mk (show out5.length ≤ 140737488355327 from Nat.le_trans hol HRr.out.2.1); clear hra hng hro hol hrs ho)
            | (go_at_call 78; refine (r3int_calls HR5.out).mono ?_; rintro e w7 ⟨n6, f6, ys6, rfl, hrd, ho, -⟩; have HR6 := Aside0.mk hrd; have HO6 := Aside0.mk ho; clear hrd ho HR5)
            | (go_at_call 78; refine (r3int_calls HR6.out).mono ?_; rintro e w8 ⟨n7, f7, ys7, rfl, hrd, ho, -⟩; have HR7 := Aside0.mk hrd; have HO7 := Aside0.mk (HO6.out.trans ho); clear hrd ho HR6)
            | (go_at_call 79; refine (r3flag_calls HR7.out).mono ?_; rintro e w9 ⟨n8, f8, ys8, rfl, hrd, ho, -⟩; have HR8 := Aside0.mk hrd; have hcv := str_conv w9 A5 c5 out5 (HRA5.out.only (HO7.out.trans ho) (fun ad e _ q => HNG5.out ad e q)) HRO5.out; obtain ⟨cn, hcn⟩ : ∃ cn, cn = strOf out5 := ⟨_, rfl⟩; rw [← hcn] at hcv; have HCN := Aside0.mk (show cn.size ≤ 140737488355328 by rw [hcn, strOf_size]; have := HOL5.out; omega); have HO8 := Aside0.mk ((HO5.out.trans HO7.out).trans ho); have HD8 := Aside0.mk ((HO8.out.block D (blk_lt HDr.out) (by have := HGB.out; omega)).trans HDr.out); have HL8 := Aside0.mk (Nat.le_trans HLr.out HO8.out.size); obtain ⟨d0, d1, df⟩ := d36_facts HD8.out; have HOa := Aside0.mk (own_move HOr.out (fun k hk => HO8.out.block k (own_lt HOr.out k hk) (by have := own_base HOr.out k hk; have := HGB.out; omega))); clear hrd ho hcn)
            | (at_builtin; refine app_cols (by rfl) _ _ (by rfl) D i (.slice Av i cv) l ⟨cn, ⟨n6, n7⟩, n8⟩ (by rfl) HOa.out (by rfl) (by omega) HL8.out ?_; intro A9 c9 w10 hown ho9; have HON := Aside0.mk hown; have HO9 := Aside0.mk ho9; have HD9 := Aside0.mk ((ho9.block D (by have := HL8.out; omega) (by omega)).trans HD8.out); clear d0 d1 df; obtain ⟨x0, x1, xf⟩ := d36_facts HD9.out; clear hown ho9))
          all_goals have hO10 : Only (fun k => D ≤ k) w9 (w10.setCell ⟨D, 1, none⟩ (.slice A9 (i + 1) c9)) := (HO9.out.wide (fun _ _ q => Nat.le_of_succ_le q)).setCell D 1 (Nat.le_refl _) _
          all_goals have hW10 : Only (fun k => k = g ∨ D ≤ k) wr (w10.setCell ⟨D, 1, none⟩ (.slice A9 (i + 1) c9)) := (HO8.out.wide (fun _ _ q => .inl q)).trans (hO10.wide (fun _ _ q => .inr q))
          all_goals go_roundg k1
          all_goals first
            | omega
            | exact ⟨i + 1, _, l ++ [⟨cn, ⟨n6, n7⟩, n8⟩], ys8, _, rfl, by first | rw [HW64.out] | rfl, ⟨by have := HI.out; exact ⟨by omega, by omega⟩⟩, ⟨by rw [List.length_append, HLL.out]; rfl⟩, ⟨fun x hx => (List.mem_append.1 hx).elim (fun q => HNS.out x q) (fun q => by rw [List.mem_singleton.1 q]; exact HCN.out)⟩, ⟨HR8.out.only hO10 (fun k hk q => by have hq : D ≤ k := q; omega)⟩, ⟨blk_set HD9.out 1 _⟩, ⟨own_move HON.out (fun k hk => Below.heap_setCell w10 ⟨D, 1, none⟩ _ k (by have := own_base HON.out k hk; show k ≠ D; omega))⟩, ⟨HBr.out.trans (hW10.below (base := W.heap.size) (fun k q => by have := HGB.out; omega) HBr.out.size)⟩, ⟨(hW10.block W.heap.size (blk_lt HKr.out) (by have := HGB.out; omega)).trans HKr.out⟩, ⟨Nat.le_trans HLr.out hW10.size⟩⟩
      · obtain ⟨b0, b1, bf⟩ := d36_facts HDr.out
        obtain ⟨k0, k1, kf⟩ := d36_facts HKr.out
        have ho := HOr.out
        rw [← HLL.out] at ho
        obtain ⟨Aw, cw, e, hcv, hC⟩ := own_cols ho
        injection e with e1 e2 e3
        subst e1
        subst e3
        have hl := HLL.out
        have hi9 := HI.out.2
        subst hl
        have HBW := Aside0.mk (Below.refl wr.heap.size wr)
        have HCr := Aside0.mk hC
        have HCV := Aside0.mk hcv
        clear ho hC hcv e2
        cases okb with
        | false =>
          have BYA := Aside0.mk (fun (W1 : World) (hb : Below wr.heap.size wr W1) => ref_bytes_any nm Av cv l W1 (Kd.C_below HCr.out hb) HCV.out (by omega) HNM.out HNS.out)
          rcases Decidable.em ((l.length : Int) < n) with hin | hin
          · have c0 : decide ((l.length : Int) < n) = true := decide_eq_true hin
            go_wp2_with (go_at_call 37; refine (BYA.out _ HBW.out).mono ?_; rintro x w6 ⟨A6, m6, c6, r6, rfl, hb⟩; have HBz := Aside0.mk (HBr.out.trans (hb.mono HBr.out.size)); have HKz := Aside0.mk ((hb.block W.heap.size (blk_lt HKr.out)).trans HKr.out); clear b0 b1 bf k0 k1 kf; obtain ⟨y0, y1, yf⟩ := d36_facts HKz.out; clear hb)
            have hF := blk_set (blk_set HKz.out 0 (.string (⟨#[]⟩ : ByteArray))) 1 (.slice none 0 0)
            obtain ⟨z0, z1, zf⟩ := d36_facts hF
            (try simp only [Exit.inBlock, Exit.then])
            refine bodyPost_ret (v := .tuple #[.agg #[.string (⟨#[]⟩ : ByteArray), .slice none 0 0], .int .i64 111]) (by rw [results_cell_tmp rfl]; go_simp) rfl ?_
            exact ⟨rfl, (HBz.out.setCell (p := ⟨W.heap.size, 0, none⟩) (Nat.le_refl _) _).setCell (p := ⟨W.heap.size, 1, none⟩) (Nat.le_refl _) _⟩
          · have c0 : decide ((l.length : Int) < n) = false := decide_eq_false hin
            go_wp2_with (go_at_call 37; refine (BYA.out _ HBW.out).mono ?_; rintro x w6 ⟨A6, m6, c6, r6, rfl, hb⟩; have HBz := Aside0.mk (HBr.out.trans (hb.mono HBr.out.size)); have HKz := Aside0.mk ((hb.block W.heap.size (blk_lt HKr.out)).trans HKr.out); clear b0 b1 bf k0 k1 kf; obtain ⟨y0, y1, yf⟩ := d36_facts HKz.out; clear hb)
            have hF := blk_set (blk_set HKz.out 0 (.string (⟨#[]⟩ : ByteArray))) 1 (.slice none 0 0)
            obtain ⟨z0, z1, zf⟩ := d36_facts hF
            (try simp only [Exit.inBlock, Exit.then])
            refine bodyPost_ret (v := .tuple #[.agg #[.string (⟨#[]⟩ : ByteArray), .slice none 0 0], .int .i64 111]) (by rw [results_cell_tmp rfl]; go_simp) rfl ?_
            exact ⟨rfl, (HBz.out.setCell (p := ⟨W.heap.size, 0, none⟩) (Nat.le_refl _) _).setCell (p := ⟨W.heap.size, 1, none⟩) (Nat.le_refl _) _⟩
        | true =>
          have hin : ¬ ((l.length : Int) < n) := fun q => hcont ⟨rfl, q⟩
          have c0 : decide ((l.length : Int) < n) = false := decide_eq_false hin
          obtain ⟨r, h1, h2⟩ := chk_any nm l (by omega) HNM.out HNS.out
          by_cases hz : r = 0
          · subst hz
            have hdk := Check_ok nm l h1
            have hne := str_ne (rdok_of (enc_range hdk)) HRR.out (fun e => HNO.out nm l h1 e.symm)
            have s1 : ((strOf (enc nm l)).toList == (strOf raw).toList) = false := beq_eq_false_iff_ne.mpr hne
            have s2 : ((strOf (enc nm l)).toList != (strOf raw).toList) = true := bne_iff_ne.mpr hne
            have HEN := Aside0.mk (rdok_of (enc_range hdk))
            have BY := Aside0.mk (fun (W1 : World) (hb : Below wr.heap.size wr W1) => ref_bytes_yes _ nm Av cv l W1 (Kd.C_below HCr.out hb) HCV.out h2 hdk)
            clear h1 h2 hdk hcont
            have CV1 := Aside0.mk (fun (w6 : World) (A5 : Option Addr) (c5 : Nat) (h : RowAt w6 A5 (enc nm l)) => str_conv w6 A5 c5 (enc nm l) h HEN.out)
            have CV2 := Aside0.mk (fun (w6 : World) (h : RowAt w6 A raw) => str_conv w6 A c raw h HRR.out)
            generalize strOf (enc nm l) = se at CV1 s1 s2 hne
            generalize strOf raw = sr at CV2 s1 s2 hne
            go_wp2_with (go_at_call 37; refine (BY.out _ HBW.out).mono ?_; rintro x w6 ⟨v5, rfl, ho, hb⟩; obtain ⟨A5, c5, e5, hc5, hC5⟩ := own_bytes ho; subst e5; have cv1 := CV1.out w6 A5 c5 (rowAt_of hC5); have cv2 := CV2.out w6 (HRA.out.below (HBr.out.trans (hb.mono HBr.out.size))); have HBz := Aside0.mk (HBr.out.trans (hb.mono HBr.out.size)); have HKz := Aside0.mk ((hb.block W.heap.size (blk_lt HKr.out)).trans HKr.out); clear b0 b1 bf k0 k1 kf; obtain ⟨y0, y1, yf⟩ := d36_facts HKz.out; clear ho hb hc5 hC5)
            have hF := blk_set (blk_set HKz.out 0 (.string (⟨#[]⟩ : ByteArray))) 1 (.slice none 0 0)
            obtain ⟨z0, z1, zf⟩ := d36_facts hF
            (try simp only [Exit.inBlock, Exit.then])
            refine bodyPost_ret (v := .tuple #[.agg #[.string (⟨#[]⟩ : ByteArray), .slice none 0 0], .int .i64 111]) (by rw [results_cell_tmp rfl]; go_simp) rfl ?_
            exact ⟨rfl, (HBz.out.setCell (p := ⟨W.heap.size, 0, none⟩) (Nat.le_refl _) _).setCell (p := ⟨W.heap.size, 1, none⟩) (Nat.le_refl _) _⟩
          · have e8 : (r != 0) = true := bne_iff_ne.mpr hz
            have e9 : (r == 0) = false := beq_eq_false_iff_ne.mpr hz
            have BN := Aside0.mk (fun (W1 : World) (hb : Below wr.heap.size wr W1) => ref_bytes_no _ nm Av cv l W1 (Kd.C_below HCr.out hb) HCV.out r h2 hz)
            clear h1 h2 hz hcont
            go_wp2_with (go_at_call 37; refine (BN.out _ HBW.out).mono ?_; rintro x w6 ⟨rfl, hb⟩; have HBz := Aside0.mk (HBr.out.trans (hb.mono HBr.out.size)); have HKz := Aside0.mk ((hb.block W.heap.size (blk_lt HKr.out)).trans HKr.out); clear b0 b1 bf k0 k1 kf; obtain ⟨y0, y1, yf⟩ := d36_facts HKz.out; clear hb)
            have hF := blk_set (blk_set HKz.out 0 (.string (⟨#[]⟩ : ByteArray))) 1 (.slice none 0 0)
            obtain ⟨z0, z1, zf⟩ := d36_facts hF
            (try simp only [Exit.inBlock, Exit.then])
            refine bodyPost_ret (v := .tuple #[.agg #[.string (⟨#[]⟩ : ByteArray), .slice none 0 0], .int .i64 111]) (by rw [results_cell_tmp rfl]; go_simp) rfl ?_
            exact ⟨rfl, (HBz.out.setCell (p := ⟨W.heap.size, 0, none⟩) (Nat.le_refl _) _).setCell (p := ⟨W.heap.size, 1, none⟩) (Nat.le_refl _) _⟩
  all_goals
    (have HD6 := Aside0.mk (blk_set HD5.out 0 (.string nm))
     have HB6 := Aside0.mk (HB5.out.setCell (p := ⟨D, 0, none⟩) (by have := HGB.out; show W.heap.size ≤ D; omega) (.string nm))
     have HK6 := Aside0.mk ((Below.heap_setCell w5 ⟨D, 0, none⟩ (.string nm) W.heap.size (by have := HGB.out; show W.heap.size ≠ D; omega)).trans HK5.out)
     have BYA := Aside0.mk (fun (W1 : World) => ref_bytes_any nm none 0 [] W1 ⟨rfl, by decide, fun q => absurd q (Nat.lt_irrefl 0)⟩ (Nat.le_refl _) (by decide) HNM.out (fun x hx => by cases hx))
     clear d0 d1 df hcv
     obtain ⟨b0, b1, bf⟩ := d36_facts HD6.out
     go_loopg [10, 11] 2 (fun kq v10 v11 w' => v10 = .bool false ∧ v11 = .int .i64 0 ∧ w' = w5.setCell ⟨D, 0, none⟩ (.string nm))
     case atStart => exact ⟨rfl, rfl, rfl⟩
     case round =>
       obtain ⟨rfl, rfl, hw⟩ := hrel
       subst hw
       rcases Decidable.em ((0 : Int) < n) with hin | hin
       · have c0 : decide ((0 : Int) < n) = true := decide_eq_true hin
         go_wp2_with (go_at_call 37; refine (BYA.out _).mono ?_; rintro x w6 ⟨A6, m6, c6, r6, rfl, hb⟩; have HBz := Aside0.mk (HB6.out.trans (hb.mono HB6.out.size)); have HKz := Aside0.mk ((hb.block W.heap.size (blk_lt HK6.out)).trans HK6.out); clear b0 b1 bf; obtain ⟨y0, y1, yf⟩ := d36_facts HKz.out; clear hb)
         have hF := blk_set (blk_set HKz.out 0 (.string (⟨#[]⟩ : ByteArray))) 1 (.slice none 0 0)
         obtain ⟨z0, z1, zf⟩ := d36_facts hF
         (try simp only [Exit.inBlock, Exit.then])
         refine bodyPost_ret (v := .tuple #[.agg #[.string (⟨#[]⟩ : ByteArray), .slice none 0 0], .int .i64 111]) (by rw [results_cell_tmp rfl]; go_simp) rfl ?_
         exact ⟨rfl, (HBz.out.setCell (p := ⟨W.heap.size, 0, none⟩) (Nat.le_refl _) _).setCell (p := ⟨W.heap.size, 1, none⟩) (Nat.le_refl _) _⟩
       · have c0 : decide ((0 : Int) < n) = false := decide_eq_false hin
         go_wp2_with (go_at_call 37; refine (BYA.out _).mono ?_; rintro x w6 ⟨A6, m6, c6, r6, rfl, hb⟩; have HBz := Aside0.mk (HB6.out.trans (hb.mono HB6.out.size)); have HKz := Aside0.mk ((hb.block W.heap.size (blk_lt HK6.out)).trans HK6.out); clear b0 b1 bf; obtain ⟨y0, y1, yf⟩ := d36_facts HKz.out; clear hb)
         have hF := blk_set (blk_set HKz.out 0 (.string (⟨#[]⟩ : ByteArray))) 1 (.slice none 0 0)
         obtain ⟨z0, z1, zf⟩ := d36_facts hF
         (try simp only [Exit.inBlock, Exit.then])
         refine bodyPost_ret (v := .tuple #[.agg #[.string (⟨#[]⟩ : ByteArray), .slice none 0 0], .int .i64 111]) (by rw [results_cell_tmp rfl]; go_simp) rfl ?_
         exact ⟨rfl, (HBz.out.setCell (p := ⟨W.heap.size, 0, none⟩) (Nat.le_refl _) _).setCell (p := ⟨W.heap.size, 1, none⟩) (Nat.le_refl _) _⟩)
end Go.Proofs.YtmeopdjdjmjngaaGreatDoor.I
