/- SchemaUndoes, walked: a directory made by puts, each row looked up, one more put and taken out. -/
import Derived.Test.YtmeopdjdjmjngaaGreatDoorPureDir
import Derived.Test.YtmeopdjdjmjngaaGreatDoorJ5
set_option linter.unusedVariables false
set_option linter.unusedSimpArgs false
namespace Go.Proofs.YtmeopdjdjmjngaaGreatDoor.J
open Go.RowKit Go.Lib Go.Proofs.YtmeopdjdjmjngaaGreatDoorW.PrintWords Go.Proofs.YtmeopdjdjmjngaaGreatDoorW.PrintLast Go.Proofs.YtmeopdjdjmjngaaGreatDoorW.PrintMore Go.Proofs.YtmeopdjdjmjngaaGreatDoor.Ins
def undReg.T : Bool × List (List Nat × List Nat) := (true, [([], []), ([0], [0]), ([1], [1]), ([2], [2]), ([2], [2]), ([2], [2]), ([4, 5, 2], [2, 4, 5]), ([6, 2], [2, 6]), ([3, 7, 2, 2], [2, 3, 7]), ([8, 2], [2, 8]), ([2, 9], [2, 9]), ([10, 8], [10]), ([11], [11]), ([12, 11], [11, 12]), ([13, 11, 11], [11, 13]), ([14], [14]), ([14], [14]), ([16, 14], [14, 16]), ([15, 17, 14], [14, 15, 17]), ([18, 14], [14, 18]), ([19, 14], [14, 19]), ([14], [14]), ([14], [14]), ([21, 22, 14], [14, 21, 22]), ([23, 14], [14, 23]), ([24, 14], [14, 24]), ([20, 25, 14], [14, 20, 25]), ([14, 26, 11], [11, 14, 26]), ([11, 27], [11, 27])])
def undReg.B : List Nat := [0, 1, 3, 7, 7, 7, 55, 119, 255, 511, 1023, 2047, 4095, 8191, 16383, 32767, 32767, 98303, 262143, 524287, 1048575, 32767, 32767, 6324223, 14712831, 31490047, 67108863, 134217727, 268435455]
theorem undReg.tab : rtab .any (opsOf Tryz.f7 13) = undReg.T := by kernel_rfl
theorem undReg.bits : waitsOk undReg.T.2 undReg.B = true := by kernel_rfl
/-- a row of the law's own making: definitions out of the arguments, in order -/
def DirAt (w : World) (W : World) (K M : Nat) (v : Value) (l : List Df) : Prop := ∃ A c inner, v = .slice A l.length c ∧ l.length ≤ c ∧ RowIs (k24.K w) W A l inner ∧ Srt l ∧ l.length ≤ K ∧ ∀ x ∈ l, x.f1.length ≤ M
set_option maxHeartbeats 8000000 in
set_option maxRecDepth 100000 in
theorem undoes_walk (k M : Nat) (A : Option Addr) (c : Nat) (l : List Df) (nm : ByteArray) (A1 : Option Addr) (c1 : Nat) (cols : List S36) (w : World) (hr : Kd.C k24 w A l.length l) (hlc : l.length ≤ c) (hc1 : cols.length ≤ c1) (hd : Kd.C k36 w A1 cols.length cols)
    (hM : M ≤ 1000000000000000000) (hk : M + 200 < k) (hl : ∀ x ∈ l, x.f1.length ≤ M) (hcols : cols.length ≤ M) (hbeg : colonnadelaw11_begun.f k = some true) (hG : Gl w) :
    Calls Tryz.prog 7 #[.slice A l.length c, .agg #[.string nm, .slice A1 cols.length c1]] w fun e w' => e = .returned (.bool true) ∧ Below w.heap.size w w' := by
  have hu24 := Tryz.underlying24
  have HG := Aside0.mk hG
  have HR := Aside0.mk hr
  have HD := Aside0.mk (k24_mk w (⟨nm, cols⟩ : Df) hc1 hd)
  have HB0 := Aside0.mk (below_alloc (Below.refl w.heap.size w) (.cells #[.string nm, .slice A1 cols.length c1] 24))
  have hl63 : l.length ≤ 9223372036854775807 := hr.2.1
  clear hG hr
  obtain ⟨m, hm⟩ : ∃ m : Nat, m = min l.length 80 := ⟨_, rfl⟩
  have hm80 : m ≤ 80 := by omega
  have hml : m ≤ l.length := by omega
  have hmc : m ≤ c := by omega
  have hmin : min (l.length : Int) 80 = (m : Int) := by omega
  have hmx : max (m : Int) 0 = (m : Int) := by omega
  clear hm
  go_enter Tryz.func7, Tryz.ntmps7
  go_wp2
  have HBK0 := Aside0.mk (heap_alloc_new w (.cells #[.string nm, .slice A1 cols.length c1] 24))
  go_loopg [5, 23] (m + 1) (fun kq v5 v23 w' => ∃ (i : Nat) (dl : List Df), v23 = .int .i64 (i : Int) ∧ Aside0 (DirAt w w' i M v5 dl) ∧ Aside0 (i + kq = m + 1 ∧ i ≤ m) ∧ Aside0 (Below w.heap.size w w') ∧ Aside0 (w'.heap[w.heap.size]? = some (.cells #[.string nm, .slice A1 cols.length c1] 24 (0, 0))))
  case atStart => exact ⟨0, [], rfl, ⟨⟨none, 0, [], rfl, Nat.le_refl _, RowIs.nil _ _ _, Srt.nil, Nat.le_refl _, fun x hx => by cases hx⟩⟩, ⟨⟨by omega, by omega⟩⟩, ⟨HB0.out⟩, ⟨HBK0.out⟩⟩
  case round =>
    clear HBK0 HB0
    obtain ⟨i, dl, rfl, HDA, HI, HB, HBK⟩ := hrel
    have hDA := HDA.out
    clear HDA
    obtain ⟨A2, c2, inner2, rfl, hc2, hrow2, hsrt, hlen2, hcol2⟩ := hDA
    have hK : ∀ p cs, k24.K w p cs → k24.K wr p cs := fun p cs h => k24.K_below HB.out h
    cases gk with
    | zero => exact absurd HI.out (by omega)
    | succ k1 =>
      rcases Nat.lt_or_ge i m with cI | cI
      · have c0 : decide ((i : Int) < (m : Int)) = true := decide_eq_true (by omega)
        have hil : i < l.length := by omega
        obtain ⟨ad, A3, c3, e3, hx0, hx1, hx2, hx3⟩ := at_T24 HR.out (i : Int) (by omega) (by omega)
        rw [show ((i : Int).toNat) = i from rfl] at hx0 hx1
        cases e3
        have hKx := k24_mk w (rd_T24 l (i : Int)) hx2 hx3
        have hMx : (rd_T24 l (i : Int)).f1.length ≤ M := by rw [rdD_is l i hil]; exact hl _ (List.getElem_mem hil)
        have g0 := pw_cell_below HB.out hx0
        have g1 := pw_cell_below HB.out hx1
        clear hx0 hx1 hx2 hx3
        generalize rd_T24 l (i : Int) = x at g0 g1 hKx hMx
        obtain ⟨xn, xc⟩ := x
        obtain ⟨e, he⟩ := Check_ends xn xc (by have : xc.length ≤ M := hMx; omega)
        have CP := Aside0.mk (fun (W : World) (hb : Below wr.heap.size wr W) => put_calls A2 c2 dl inner2 xn A3 c3 xc W (hrow2.below hb) (fun p cs h => k24.K_below hb (hK p cs h)) hc2 hKx e he)
        have HBr := Aside0.mk (Below.refl wr.heap.size wr)
        have hok := fun (h : (putF dl xn xc e).2 = 0) => putF_ok (l := dl) (d := ⟨xn, xc⟩) (e := e) h
        have HW64 := Aside0.mk (w64D i (by omega))
        have hDb := Aside0.mk (fun (W : World) (hb : Below wr.heap.size wr W) => hrow2.below hb)
        have HBW := Aside0.mk (fun (W : World) (hb : Below wr.heap.size wr W) => HB.out.trans (hb.mono HB.out.size))
        have HKW := Aside0.mk (fun (W : World) (hb : Below wr.heap.size wr W) => (hb.block w.heap.size (blk_lt HBK.out)).trans HBK.out)
        generalize putF dl xn xc e = P at CP hok
        by_cases hz : P.2 = 0
        · obtain ⟨q1, q2, q3⟩ := hok hz
          have hz2 : (P.2 == 0) = true := by rw [hz]; rfl
          have HS := Aside0.mk (insD_srt hsrt q2)
          have HL := Aside0.mk (insD_len dl ⟨xn, xc⟩)
          have HC := Aside0.mk (show ∀ x ∈ insD dl ⟨xn, xc⟩, x.f1.length ≤ M from fun x hx => by
            unfold insD at hx
            rcases List.mem_append.1 hx with hx | hx
            · rcases List.mem_append.1 hx with hx | hx
              · exact hcol2 x (List.mem_of_mem_take hx)
              · rw [List.mem_singleton.1 hx]; exact hMx
            · exact hcol2 x (List.mem_of_mem_drop hx))
          rw [← q1] at HS HL HC
          clear hok q1 q2 hKx hMx hsrt hcol2 hrow2 he hK hDb
          obtain ⟨P1, P2⟩ := P
          replace hz : P2 = 0 := hz
          subst hz
          go_wp2_with (first
            | ((with_reducible refine gate_dst (N := 7) rfl ?_); (try (refine gate_guard (by rfl) ?_; dsimp only)); refine box_event ?hg (N := 7) ?hd (cs := #[.string (⟨#[]⟩ : ByteArray), .slice none 0 0]) (t := 24) ?hr ?_; (case hd => rfl); (case hg => rfl); (case hr => first | (go_simp; done) | (go_simp; rfl)); intro gb hg w4 hbox hb; obtain ⟨y0, y1, yf⟩ := box_facts hbox; obtain ⟨z0, z1, zf⟩ := box_facts (blk_set (blk_set hbox 0 (.string xn)) 1 (.slice A3 xc.length c3)); have g0' := pw_cell_below hb g0; have g1' := pw_cell_below hb g1; have HB4 := Aside0.mk ((hb.setCell (p := ⟨gb, 0, none⟩) (Nat.le_of_eq hg.symm) (.string xn)).setCell (p := ⟨gb, 1, none⟩) (Nat.le_of_eq hg.symm) (.slice A3 xc.length c3)); clear g0 g1 hg hbox hb)
            | (go_at_call 32; refine (CP.out _ HB4.out).mono ?_; rintro x w5 ⟨hb5, A4, c4, inner4, rfl, hc4, hrow4⟩; have HB5 := Aside0.mk (HB4.out.trans (hb5.mono HB4.out.size)); have HR4 := Aside0.mk hrow4; have HC4 := Aside0.mk hc4; clear hb5 hrow4 hc4))
          go_roundg k1
          case measure => omega
          case rel => exact ⟨i + 1, P1, by first | rw [HW64.out] | rfl, ⟨⟨A4, c4, inner4, rfl, HC4.out, HR4.out, HS.out, by have := HL.out; omega, HC.out⟩⟩, ⟨by have := HI.out; exact ⟨by omega, by omega⟩⟩, ⟨HBW.out _ HB5.out⟩, ⟨HKW.out _ HB5.out⟩⟩
        · have hz2 : (P.2 == 0) = false := by simpa using hz
          have HS := Aside0.mk hsrt
          have HC := Aside0.mk hcol2
          clear hok hKx hMx hsrt hcol2 hrow2 he hK
          obtain ⟨P1, P2⟩ := P
          have hz : ¬ (P2 = 0) := hz
          have hz2 : (P2 == 0) = false := hz2
          go_wp2_with (first
            | ((with_reducible refine gate_dst (N := 7) rfl ?_); (try (refine gate_guard (by rfl) ?_; dsimp only)); refine box_event ?hg (N := 7) ?hd (cs := #[.string (⟨#[]⟩ : ByteArray), .slice none 0 0]) (t := 24) ?hr ?_; (case hd => rfl); (case hg => rfl); (case hr => first | (go_simp; done) | (go_simp; rfl)); intro gb hg w4 hbox hb; obtain ⟨y0, y1, yf⟩ := box_facts hbox; obtain ⟨z0, z1, zf⟩ := box_facts (blk_set (blk_set hbox 0 (.string xn)) 1 (.slice A3 xc.length c3)); have g0' := pw_cell_below hb g0; have g1' := pw_cell_below hb g1; have HB4 := Aside0.mk ((hb.setCell (p := ⟨gb, 0, none⟩) (Nat.le_of_eq hg.symm) (.string xn)).setCell (p := ⟨gb, 1, none⟩) (Nat.le_of_eq hg.symm) (.slice A3 xc.length c3)); clear g0 g1 hg hbox hb)
            | (go_at_call 32; refine (CP.out _ HB4.out).mono ?_; rintro x w5 ⟨hb5, A4, c4, inner4, rfl, hc4, hrow4⟩; have HB5 := Aside0.mk (HB4.out.trans (hb5.mono HB4.out.size)); have HR4 := Aside0.mk hrow4; have HC4 := Aside0.mk hc4; clear hb5 hrow4 hc4))
          go_roundg k1
          case measure => omega
          case rel => exact ⟨i + 1, dl, by first | rw [HW64.out] | rfl, ⟨⟨A2, c2, inner2, rfl, hc2, hDb.out _ HB5.out, HS.out, by omega, HC.out⟩⟩, ⟨by have := HI.out; exact ⟨by omega, by omega⟩⟩, ⟨HBW.out _ HB5.out⟩, ⟨HKW.out _ HB5.out⟩⟩
      · have hiM : i = m := by have := HI.out; omega
        subst hiM
        have c0 : decide ((i : Int) < (i : Int)) = false := decide_eq_false (by omega)
        have hdl80 : dl.length ≤ 80 := by omega
        have HS := Aside0.mk hsrt
        have HC := Aside0.mk hcol2
        have HROW := Aside0.mk hrow2
        have HKr := Aside0.mk hK
        clear hsrt hcol2 hrow2 hK hlen2 cI
        go_wp2
        go_loopg [39] (dl.length + 1) (fun kq v39 w' => ∃ j : Nat, v39 = .int .i64 (j : Int) ∧ Aside0 (j + kq = dl.length + 1 ∧ j ≤ dl.length) ∧ Aside0 (Below wr.heap.size wr w'))
        case atStart => exact ⟨0, rfl, ⟨⟨by omega, by omega⟩⟩, ⟨Below.refl _ _⟩⟩
        case round =>
          obtain ⟨j, rfl, HJ, HB2⟩ := hrel
          cases gk with
          | zero => exact absurd HJ.out (by omega)
          | succ k2 =>
            rcases Nat.lt_or_ge j dl.length with cJ | cJ
            · have c0' : decide ((j : Int) < (dl.length : Int)) = true := decide_eq_true (by omega)
              have HBW2 := Aside0.mk (HB.out.trans (HB2.out.mono HB.out.size))
              have HK2 := Aside0.mk (fun (p : Df) (cs : List Value) (h : k24.K w p cs) => k24.K_below HBW2.out h)
              have HROW2 := Aside0.mk (HROW.out.below HB2.out)
              obtain ⟨ad, A3, c3, e3, hx0, hx1, hx2, hx3⟩ := at_T24 (HROW2.out.toC HK2.out) (j : Int) (by omega) (by omega)
              have hat : atI dl (rd_T24 dl (j : Int)).f0 = (j : Int) := by rw [rdD_is dl j cJ]; exact atI_at HS.out cJ
              rw [show ((j : Int).toNat) = j from rfl] at hx0 hx1
              have HLK0 := lookup_calls A2 c2 dl (rd_T24 dl (j : Int)).f0 wr (HROW2.out.toC HK2.out) hc2 HROW2.out.2.1
              rw [hat] at HLK0
              have hMx : (rd_T24 dl (j : Int)).f1.length ≤ M := by rw [rdD_is dl j cJ]; exact HC.out _ (List.getElem_mem cJ)
              clear hat
              have HLK := Aside0.mk (HLK0.mono (fun e w' (z : _ ∧ _) => (by
                obtain ⟨z1, z2⟩ := z
                rcases z2 with ⟨q, _⟩ | ⟨_, A5, c5, q1, q2, q3⟩
                · omega
                · exact ⟨z1, A5, c5, q1, q2, q3⟩ : Below wr.heap.size wr w' ∧ ∃ A5 c5, e = .returned (.tuple #[.agg #[.string (rd_T24 dl (j : Int)).f0, .slice A5 (rd_T24 dl (j : Int)).f1.length c5], .bool true]) ∧ (rd_T24 dl (j : Int)).f1.length ≤ c5 ∧ Kd.C k36 wr A5 (rd_T24 dl (j : Int)).f1.length (rd_T24 dl (j : Int)).f1)))
              clear HLK0
              have HX2 := Aside0.mk hx2
              have HX3 := Aside0.mk hx3
              have g0 := hx0
              have g1 := hx1
              have hw0 := Aside0.mk hx0
              have hw1 := Aside0.mk hx1
              clear hx0 hx1 hx2 hx3
              have HPREV : Aside0 (0 < j → ∃ pn : ByteArray, wr.cell? (ad.add ((j - 1) * 2)) = some (.string pn) ∧ Op.bytesLess pn.toList (rd_T24 dl (j : Int)).f0.toList = true) := ⟨fun hj0 => by
                obtain ⟨adp, Ap, cp, ep, hp0, _⟩ := at_T24 (HROW2.out.toC HK2.out) ((j : Int) - 1) (by omega) (by omega)
                obtain rfl : ad = adp := Option.some.inj (e3.symm.trans ep)
                rw [show (((j : Int) - 1).toNat) = j - 1 by omega] at hp0
                refine ⟨_, hp0, ?_⟩
                rw [show ((j : Int) - 1) = ((j - 1 : Nat) : Int) by omega, rdD_is dl j cJ, rdD_is dl (j - 1) (by omega)]
                exact HS.out (j - 1) j (by omega) cJ (by omega)⟩
              obtain ⟨x, hx⟩ : ∃ x, x = rd_T24 dl (j : Int) := ⟨_, rfl⟩
              rw [← hx] at HLK HX2 HX3 g0 g1 hMx hw0 hw1 HPREV
              have HXE := Aside0.mk hx
              clear hx
              obtain ⟨xn, xc⟩ := x
              cases e3
              have hc2' : (j : Int) < (dl.length : Int) := by omega
              have hc2'' : (j : Int) ≤ (c2 : Int) := by omega
              go_upto_region 13 with (first
                | (go_at_call 33; refine HLK.out.mono ?_; rintro e w3 ⟨hb3, A5, c5, rfl, hq2, hq3⟩; have HB3 := Aside0.mk hb3; have g2 := pw_cell_below hb3 g0; have g3 := pw_cell_below hb3 g1; have HQ2 := Aside0.mk hq2; have HQ3 := Aside0.mk hq3; clear hb3 hq2 hq3 g0 g1)
                | ((with_reducible refine gate_dst (N := 11) rfl ?_); (try (refine gate_guard (by rfl) ?_; dsimp only)); refine box_event ?hg (N := 11) ?hd (cs := #[.string (⟨#[]⟩ : ByteArray), .slice none 0 0]) (t := 24) ?hr ?_; (case hd => rfl); (case hg => rfl); (case hr => first | (go_simp; done) | (go_simp; rfl)); intro gb hg w4 hbox hb; obtain ⟨y0, y1, yf⟩ := box_facts hbox; have HBK4 := Aside0.mk (blk_set (blk_set hbox 0 (.string xn)) 1 (.slice A5 xc.length c5)); have HB4 := Aside0.mk (HB3.out.trans (((hb.setCell (p := ⟨gb, 0, none⟩) (Nat.le_of_eq hg.symm) (.string xn)).setCell (p := ⟨gb, 1, none⟩) (Nat.le_of_eq hg.symm) (.slice A5 xc.length c5)).mono HB3.out.size)); clear hg hbox hb g2 g3))
              have HW64 := Aside0.mk (w64D j (by omega))
              have HSAME := Aside0.mk (same_self xn xc (by omega) k (by omega))
              have p0 : ((0 : Int) ≤ (j : Int)) = True := eq_true (by omega)
              have p1 : ((j : Int) < (dl.length : Int)) = True := eq_true (by omega)
              have p2 : (j < dl.length) = True := eq_true cJ
              rcases Nat.eq_zero_or_pos j with hj0 | hj0
              · have hgt : decide ((j : Int) > 0) = false := decide_eq_false (by omega)
                have hgt2 : (0 < j) = False := eq_false (by omega)
                have HJ0 := Aside0.mk hj0
                clear hj0
                refine start_ (n := 29) (S := fun w' => w'.cell? ⟨gb, 0, none⟩ = some (.string xn) ∧ w'.cell? ⟨gb, 1, none⟩ = some (.slice A5 xc.length c5) ∧ w'.cell? (ad.add (j * 2)) = some (.string xn) ∧ w'.cell? ⟨(ad.add (j * 2)).block, (ad.add (j * 2)).off + 1, none⟩ = some (.slice A3 xc.length c3)) (ds := []) #[false, false, false, false, false, false, false, false, false, false, false, false, false, false, false, false, false, false, false, false, false, false, false, false, false, false, false, false, false] (by kernel_rfl) rfl rfl ⟨(blk_cell HBK4.out 0).trans rfl, (blk_cell HBK4.out 1).trans rfl, pw_cell_below HB4.out hw0.out, pw_cell_below HB4.out hw1.out⟩ (fun hHeld => ?_); refine with_tabW undReg.tab undReg.bits (fun HT_ HW_ => ?_)
                have BK := Aside0.mk (show ((w4.setCell ⟨gb, 0, none⟩ (.string xn)).setCell ⟨gb, 1, none⟩ (.slice A5 xc.length c5)).drew.heap[gb]? = some (.cells #[.string xn, .slice A5 xc.length c5] 24 (0, 0)) from HBK4.out)
                have HBC := Aside0.mk (below_drew1 HB4.out)
                clear y0 y1 yf HBK4 HB4
                generalize ((w4.setCell ⟨gb, 0, none⟩ (.string xn)).setCell ⟨gb, 1, none⟩ (.slice A5 xc.length c5)).drew = w9 at BK HBC hHeld ⊢
                refine pure_ (i := 0) (N := some 52) (v := ?_) (a' := ?_) #[true, false, false, false, false, false, false, false, false, false, false, false, false, false, false, false, false, false, false, false, false, false, false, false, false, false, false, false, false] rfl rfl (any_of HT_.out (by kernel_rfl)) (fun _ _ _ h => h) (Or.inl ⟨by rfl, ?_⟩) ?_ ?_
                rotate_left
                · intro w'
                  go_simp
                  with_reducible rfl
                rotate_left
                · simp only [Act.put, List.setIfInBounds_toArray, List.set_cons_zero, List.set_cons_succ, i64_w, i32_w]
                  rfl
                refine pure_ (i := 1) (N := some 53) (v := ?_) (a' := ?_) #[true, true, false, false, false, false, false, false, false, false, false, false, false, false, false, false, false, false, false, false, false, false, false, false, false, false, false, false, false] rfl rfl (any_of HT_.out (by kernel_rfl)) (fun _ _ _ h => h) (Or.inl ⟨by rfl, ?_⟩) ?_ ?_
                rotate_left
                · intro w'
                  go_simp
                  with_reducible rfl
                rotate_left
                · simp only [Act.put, List.setIfInBounds_toArray, List.set_cons_zero, List.set_cons_succ, i64_w, i32_w]
                  rfl
                refine pure_ (i := 2) (N := some 54) (v := ?_) (a' := ?_) #[true, true, true, false, false, false, false, false, false, false, false, false, false, false, false, false, false, false, false, false, false, false, false, false, false, false, false, false, false] rfl rfl (any_of HT_.out (by kernel_rfl)) (fun _ _ _ h => h) (Or.inl ⟨by rfl, ?_⟩) ?_ ?_
                rotate_left
                · intro w'
                  go_simp
                  with_reducible rfl
                rotate_left
                · simp only [Act.put, List.setIfInBounds_toArray, List.set_cons_zero, List.set_cons_succ, i64_w, i32_w]
                  rfl
                refine pure_ (i := 4) (N := some 56) (v := ?_) (a' := ?_) #[true, true, true, false, true, false, false, false, false, false, false, false, false, false, false, false, false, false, false, false, false, false, false, false, false, false, false, false, false] rfl rfl (any_of HT_.out (by kernel_rfl)) (fun _ _ _ h => h) (Or.inl ⟨by rfl, ?_⟩) ?_ ?_
                rotate_left
                · intro w'
                  go_simp
                  with_reducible rfl
                rotate_left
                · simp only [Act.put, List.setIfInBounds_toArray, List.set_cons_zero, List.set_cons_succ, i64_w, i32_w]
                  rfl
                refine pure_ (i := 5) (N := some 57) (v := ?_) (a' := ?_) #[true, true, true, false, true, true, false, false, false, false, false, false, false, false, false, false, false, false, false, false, false, false, false, false, false, false, false, false, false] rfl rfl (any_of HT_.out (by kernel_rfl)) (fun _ _ _ h => h) (Or.inl ⟨by rfl, ?_⟩) ?_ ?_
                rotate_left
                · intro w'
                  go_simp
                  with_reducible rfl
                rotate_left
                · simp only [Act.put, List.setIfInBounds_toArray, List.set_cons_zero, List.set_cons_succ, i64_w, i32_w]
                  rfl
                refine pure_ (i := 6) (N := some 58) (v := ?_) (a' := ?_) #[true, true, true, false, true, true, true, false, false, false, false, false, false, false, false, false, false, false, false, false, false, false, false, false, false, false, false, false, false] rfl rfl (any_of HT_.out (by kernel_rfl)) (fun _ _ _ h => h) (Or.inl ⟨by rfl, ?_⟩) ?_ ?_
                rotate_left
                · intro w'
                  go_simp
                  with_reducible rfl
                rotate_left
                · simp only [Act.put, List.setIfInBounds_toArray, List.set_cons_zero, List.set_cons_succ, i64_w, i32_w]
                  rfl
                refine take_ (i := 3) (N := some 55) (v := ?_) (a' := ?_) #[true, true, true, true, true, true, true, false, false, false, false, false, false, false, false, false, false, false, false, false, false, false, false, false, false, false, false, false, false] rfl rfl (take_ofW HT_.out HW_.out (by kernel_rfl)) (fun _ _ _ h => h) (Or.inl ⟨by rfl, ?_⟩) hHeld ?_ ?_
                rotate_left
                · rintro w' ⟨s0, s1, s2, s3⟩
                  go_simp
                  with_reducible rfl
                rotate_left
                · simp only [Act.put, List.setIfInBounds_toArray, List.set_cons_zero, List.set_cons_succ, i64_w, i32_w]
                  rfl
                refine take_ (i := 7) (N := some 59) (v := ?_) (a' := ?_) #[true, true, true, true, true, true, true, true, false, false, false, false, false, false, false, false, false, false, false, false, false, false, false, false, false, false, false, false, false] rfl rfl (take_ofW HT_.out HW_.out (by kernel_rfl)) (fun _ _ _ h => h) (Or.inl ⟨by rfl, ?_⟩) hHeld ?_ ?_
                rotate_left
                · rintro w' ⟨s0, s1, s2, s3⟩
                  go_simp
                  with_reducible rfl
                rotate_left
                · simp only [Act.put, List.setIfInBounds_toArray, List.set_cons_zero, List.set_cons_succ, i64_w, i32_w]
                  rfl
                refine one_ (i := 8) (N := some 60) #[true, true, true, true, true, true, true, true, true, false, false, false, false, false, false, false, false, false, false, false, false, false, false, false, false, false, false, false, false] rfl rfl (one_of HT_.out (by kernel_rfl)) (by decide) (fun K hK => ?_)
                refine goes_ Tryz.func31 (by kernel_rfl) rfl #[.agg #[.string xn, .slice A5 xc.length c5], .agg #[.string xn, .slice A3 xc.length c3]] (by rfl) rfl rfl (by (try simp only [List.map_toArray, List.map_cons, List.map_nil]); first | done | rfl | (simp only [List.length_drop, List.length_take]; rfl)) ?_
                refine (colonnaderef11_Same.calls k xn A5 c5 xc xn A3 c3 xc true w9 (Kd.C_below HQ3.out HBC.out) HQ2.out (Kd.C_below HX3.out HBC.out) HX2.out HSAME.out).mono ?_
                rintro e w10 ⟨rfl, hb⟩
                refine ⟨_, rfl, ?_⟩
                have BK' := Aside0.mk ((hb.block gb (blk_lt BK.out)).trans BK.out)
                have HBC' := Aside0.mk (HBC.out.trans (hb.mono HBC.out.size))
                refine hK.out _ _ ⟨(blk_cell BK'.out 0).trans rfl, (blk_cell BK'.out 1).trans rfl, pw_cell_below HBC'.out hw0.out, pw_cell_below HBC'.out hw1.out⟩ (fun hHeld => ?_)
                clear hK K
                refine norm_ (a' := ?_) ?_ ?_
                rotate_left
                · show Act.put _ (some 60) _ = _
                  simp only [Act.put, List.setIfInBounds_toArray, List.set_cons_zero, List.set_cons_succ, i64_w, i32_w]
                  rfl
                refine pure_ (i := 9) (N := some 61) (v := ?_) (a' := ?_) #[true, true, true, true, true, true, true, true, true, true, false, false, false, false, false, false, false, false, false, false, false, false, false, false, false, false, false, false, false] rfl rfl (any_of HT_.out (by kernel_rfl)) (fun _ _ _ h => h) (Or.inl ⟨by rfl, ?_⟩) ?_ ?_
                rotate_left
                · intro w'
                  go_simp
                  with_reducible rfl
                rotate_left
                · simp only [Act.put, List.setIfInBounds_toArray, List.set_cons_zero, List.set_cons_succ, i64_w, i32_w]
                  rfl
                refine pure_ (i := 10) (N := some 62) (v := ?_) (a' := ?_) #[true, true, true, true, true, true, true, true, true, true, true, false, false, false, false, false, false, false, false, false, false, false, false, false, false, false, false, false, false] rfl rfl (any_of HT_.out (by kernel_rfl)) (fun _ _ _ h => h) (Or.inl ⟨by rfl, ?_⟩) ?_ ?_
                rotate_left
                · intro w'
                  go_simp
                  with_reducible rfl
                rotate_left
                · simp only [Act.put, List.setIfInBounds_toArray, List.set_cons_zero, List.set_cons_succ, i64_w, i32_w]
                  rfl
                refine pure_ (i := 11) (N := some 63) (v := ?_) (a' := ?_) #[true, true, true, true, true, true, true, true, true, true, true, true, false, false, false, false, false, false, false, false, false, false, false, false, false, false, false, false, false] rfl rfl (any_of HT_.out (by kernel_rfl)) (fun _ _ _ h => h) (Or.inl ⟨by rfl, ?_⟩) ?_ ?_
                rotate_left
                · intro w'
                  go_simp
                  with_reducible rfl
                rotate_left
                · simp only [Act.put, List.setIfInBounds_toArray, List.set_cons_zero, List.set_cons_succ, i64_w, i32_w]
                  rfl
                refine pure_ (i := 12) (N := some 64) (v := ?_) (a' := ?_) #[true, true, true, true, true, true, true, true, true, true, true, true, true, false, false, false, false, false, false, false, false, false, false, false, false, false, false, false, false] rfl rfl (any_of HT_.out (by kernel_rfl)) (fun _ _ _ h => h) (Or.inl ⟨by rfl, ?_⟩) ?_ ?_
                rotate_left
                · intro w'
                  go_simp
                  with_reducible rfl
                rotate_left
                · simp only [Act.put, List.setIfInBounds_toArray, List.set_cons_zero, List.set_cons_succ, i64_w, i32_w]
                  rfl
                refine pure_ (i := 13) (N := some 65) (v := ?_) (a' := ?_) #[true, true, true, true, true, true, true, true, true, true, true, true, true, true, false, false, false, false, false, false, false, false, false, false, false, false, false, false, false] rfl rfl (any_of HT_.out (by kernel_rfl)) (fun _ _ _ h => h) (Or.inl ⟨by rfl, ?_⟩) ?_ ?_
                rotate_left
                · intro w'
                  go_simp
                  with_reducible rfl
                rotate_left
                · simp only [Act.put, List.setIfInBounds_toArray, List.set_cons_zero, List.set_cons_succ, i64_w, i32_w]
                  rfl
                refine pure_ (i := 14) (N := some 66) (v := ?_) (a' := ?_) #[true, true, true, true, true, true, true, true, true, true, true, true, true, true, true, false, false, false, false, false, false, false, false, false, false, false, false, false, false] rfl rfl (any_of HT_.out (by kernel_rfl)) (fun _ _ _ h => h) (Or.inl ⟨by rfl, ?_⟩) ?_ ?_
                rotate_left
                · intro w'
                  go_simp
                  with_reducible rfl
                rotate_left
                · simp only [Act.put, List.setIfInBounds_toArray, List.set_cons_zero, List.set_cons_succ, i64_w, i32_w]
                  rfl
                refine pure_ (i := 15) (N := some 67) (v := undef) (a' := ?_) #[true, true, true, true, true, true, true, true, true, true, true, true, true, true, true, true, false, false, false, false, false, false, false, false, false, false, false, false, false] rfl rfl (any_of HT_.out (by kernel_rfl)) (fun _ _ _ h => h) (Or.inr ⟨by rfl, rfl⟩) ?_ ?_
                rotate_left
                · simp only [Act.put, List.setIfInBounds_toArray, List.set_cons_zero, List.set_cons_succ, i64_w, i32_w]
                  rfl
                refine pure_ (i := 16) (N := some 68) (v := undef) (a' := ?_) #[true, true, true, true, true, true, true, true, true, true, true, true, true, true, true, true, true, false, false, false, false, false, false, false, false, false, false, false, false] rfl rfl (any_of HT_.out (by kernel_rfl)) (fun _ _ _ h => h) (Or.inr ⟨by rfl, rfl⟩) ?_ ?_
                rotate_left
                · simp only [Act.put, List.setIfInBounds_toArray, List.set_cons_zero, List.set_cons_succ, i64_w, i32_w]
                  rfl
                refine pure_ (i := 17) (N := some 69) (v := undef) (a' := ?_) #[true, true, true, true, true, true, true, true, true, true, true, true, true, true, true, true, true, true, false, false, false, false, false, false, false, false, false, false, false] rfl rfl (any_of HT_.out (by kernel_rfl)) (fun _ _ _ h => h) (Or.inr ⟨by rfl, rfl⟩) ?_ ?_
                rotate_left
                · simp only [Act.put, List.setIfInBounds_toArray, List.set_cons_zero, List.set_cons_succ, i64_w, i32_w]
                  rfl
                refine pure_ (i := 18) (N := some 70) (v := undef) (a' := ?_) #[true, true, true, true, true, true, true, true, true, true, true, true, true, true, true, true, true, true, true, false, false, false, false, false, false, false, false, false, false] rfl rfl (any_of HT_.out (by kernel_rfl)) (fun _ _ _ h => h) (Or.inr ⟨by rfl, rfl⟩) ?_ ?_
                rotate_left
                · simp only [Act.put, List.setIfInBounds_toArray, List.set_cons_zero, List.set_cons_succ, i64_w, i32_w]
                  rfl
                refine pure_ (i := 19) (N := some 71) (v := undef) (a' := ?_) #[true, true, true, true, true, true, true, true, true, true, true, true, true, true, true, true, true, true, true, true, false, false, false, false, false, false, false, false, false] rfl rfl (any_of HT_.out (by kernel_rfl)) (fun _ _ _ h => h) (Or.inr ⟨by rfl, rfl⟩) ?_ ?_
                rotate_left
                · simp only [Act.put, List.setIfInBounds_toArray, List.set_cons_zero, List.set_cons_succ, i64_w, i32_w]
                  rfl
                refine pure_ (i := 20) (N := some 72) (v := undef) (a' := ?_) #[true, true, true, true, true, true, true, true, true, true, true, true, true, true, true, true, true, true, true, true, true, false, false, false, false, false, false, false, false] rfl rfl (any_of HT_.out (by kernel_rfl)) (fun _ _ _ h => h) (Or.inr ⟨by rfl, rfl⟩) ?_ ?_
                rotate_left
                · simp only [Act.put, List.setIfInBounds_toArray, List.set_cons_zero, List.set_cons_succ, i64_w, i32_w]
                  rfl
                refine pure_ (i := 21) (N := some 73) (v := undef) (a' := ?_) #[true, true, true, true, true, true, true, true, true, true, true, true, true, true, true, true, true, true, true, true, true, true, false, false, false, false, false, false, false] rfl rfl (any_of HT_.out (by kernel_rfl)) (fun _ _ _ h => h) (Or.inr ⟨by rfl, rfl⟩) ?_ ?_
                rotate_left
                · simp only [Act.put, List.setIfInBounds_toArray, List.set_cons_zero, List.set_cons_succ, i64_w, i32_w]
                  rfl
                refine pure_ (i := 22) (N := some 74) (v := undef) (a' := ?_) #[true, true, true, true, true, true, true, true, true, true, true, true, true, true, true, true, true, true, true, true, true, true, true, false, false, false, false, false, false] rfl rfl (any_of HT_.out (by kernel_rfl)) (fun _ _ _ h => h) (Or.inr ⟨by rfl, rfl⟩) ?_ ?_
                rotate_left
                · simp only [Act.put, List.setIfInBounds_toArray, List.set_cons_zero, List.set_cons_succ, i64_w, i32_w]
                  rfl
                refine pure_ (i := 23) (N := some 75) (v := undef) (a' := ?_) #[true, true, true, true, true, true, true, true, true, true, true, true, true, true, true, true, true, true, true, true, true, true, true, true, false, false, false, false, false] rfl rfl (any_of HT_.out (by kernel_rfl)) (fun _ _ _ h => h) (Or.inr ⟨by rfl, rfl⟩) ?_ ?_
                rotate_left
                · simp only [Act.put, List.setIfInBounds_toArray, List.set_cons_zero, List.set_cons_succ, i64_w, i32_w]
                  rfl
                refine pure_ (i := 24) (N := some 76) (v := undef) (a' := ?_) #[true, true, true, true, true, true, true, true, true, true, true, true, true, true, true, true, true, true, true, true, true, true, true, true, true, false, false, false, false] rfl rfl (any_of HT_.out (by kernel_rfl)) (fun _ _ _ h => h) (Or.inr ⟨by rfl, rfl⟩) ?_ ?_
                rotate_left
                · simp only [Act.put, List.setIfInBounds_toArray, List.set_cons_zero, List.set_cons_succ, i64_w, i32_w]
                  rfl
                refine pure_ (i := 25) (N := some 77) (v := undef) (a' := ?_) #[true, true, true, true, true, true, true, true, true, true, true, true, true, true, true, true, true, true, true, true, true, true, true, true, true, true, false, false, false] rfl rfl (any_of HT_.out (by kernel_rfl)) (fun _ _ _ h => h) (Or.inr ⟨by rfl, rfl⟩) ?_ ?_
                rotate_left
                · simp only [Act.put, List.setIfInBounds_toArray, List.set_cons_zero, List.set_cons_succ, i64_w, i32_w]
                  rfl
                refine pure_ (i := 26) (N := some 78) (v := undef) (a' := ?_) #[true, true, true, true, true, true, true, true, true, true, true, true, true, true, true, true, true, true, true, true, true, true, true, true, true, true, true, false, false] rfl rfl (any_of HT_.out (by kernel_rfl)) (fun _ _ _ h => h) (Or.inr ⟨by rfl, rfl⟩) ?_ ?_
                rotate_left
                · simp only [Act.put, List.setIfInBounds_toArray, List.set_cons_zero, List.set_cons_succ, i64_w, i32_w]
                  rfl
                refine pure_ (i := 27) (N := some 79) (v := ?_) (a' := ?_) #[true, true, true, true, true, true, true, true, true, true, true, true, true, true, true, true, true, true, true, true, true, true, true, true, true, true, true, true, false] rfl rfl (any_of HT_.out (by kernel_rfl)) (fun _ _ _ h => h) (Or.inl ⟨by rfl, ?_⟩) ?_ ?_
                rotate_left
                · intro w'
                  go_simp
                  with_reducible rfl
                rotate_left
                · simp only [Act.put, List.setIfInBounds_toArray, List.set_cons_zero, List.set_cons_succ, i64_w, i32_w]
                  rfl
                refine pure_ (i := 28) (N := some 80) (v := ?_) (a' := ?_) #[true, true, true, true, true, true, true, true, true, true, true, true, true, true, true, true, true, true, true, true, true, true, true, true, true, true, true, true, true] rfl rfl (any_of HT_.out (by kernel_rfl)) (fun _ _ _ h => h) (Or.inl ⟨by rfl, ?_⟩) ?_ ?_
                rotate_left
                · intro w'
                  go_simp
                  with_reducible rfl
                rotate_left
                · simp only [Act.put, List.setIfInBounds_toArray, List.set_cons_zero, List.set_cons_succ, i64_w, i32_w]
                  rfl
                refine done_ (done_of HT_.out (by kernel_rfl)) ?_
                go_wp2
                go_roundg k2
                case measure => omega
                case rel => exact ⟨j + 1, by first | rw [HW64.out] | rfl, ⟨by have := HJ.out; exact ⟨by omega, by omega⟩⟩, ⟨HB2.out.trans (HBC'.out.mono HB2.out.size)⟩⟩
              · have hgt : decide ((j : Int) > 0) = true := decide_eq_true (by omega)
                have hgt2 : (0 < j) = True := eq_true hj0
                obtain ⟨pn, hwp', hless⟩ := HPREV.out hj0
                have hwp := Aside0.mk hwp'
                have hge : ∀ (w' : World), (Go.binOp BinOp.geq 9 (.string pn) (.string xn)).run Tryz.prog w' = .ok (.bool false) w' := fun w' =>
                  (show (Go.binOp BinOp.geq 9 (.string pn) (.string xn)).run Tryz.prog w' = .ok (.bool (!(Op.bytesLess pn.toList xn.toList))) w' from rfl).trans (by rw [hless]; rfl)
                have HJ0 := Aside0.mk hj0
                have hwj : wrap64 ((j : Int) - 1) = (j : Int) - 1 := by unfold wrap64; omega
                have p3 : ((0 : Int) ≤ (j : Int) - 1) = True := eq_true (by omega)
                have p4 : ((j : Int) - 1 < (dl.length : Int)) = True := eq_true (by omega)
                have p5 : ((1 : Int) ≤ (j : Int)) = True := eq_true (by omega)
                clear hj0 hwp' hless
                refine start_ (n := 29) (S := fun w' => w'.cell? ⟨gb, 0, none⟩ = some (.string xn) ∧ w'.cell? ⟨gb, 1, none⟩ = some (.slice A5 xc.length c5) ∧ w'.cell? (ad.add (j * 2)) = some (.string xn) ∧ w'.cell? ⟨(ad.add (j * 2)).block, (ad.add (j * 2)).off + 1, none⟩ = some (.slice A3 xc.length c3) ∧ w'.cell? (ad.add ((j - 1) * 2)) = some (.string pn)) (ds := []) #[false, false, false, false, false, false, false, false, false, false, false, false, false, false, false, false, false, false, false, false, false, false, false, false, false, false, false, false, false] (by kernel_rfl) rfl rfl ⟨(blk_cell HBK4.out 0).trans rfl, (blk_cell HBK4.out 1).trans rfl, pw_cell_below HB4.out hw0.out, pw_cell_below HB4.out hw1.out, pw_cell_below HB4.out hwp.out⟩ (fun hHeld => ?_); refine with_tabW undReg.tab undReg.bits (fun HT_ HW_ => ?_)
                have BK := Aside0.mk (show ((w4.setCell ⟨gb, 0, none⟩ (.string xn)).setCell ⟨gb, 1, none⟩ (.slice A5 xc.length c5)).drew.heap[gb]? = some (.cells #[.string xn, .slice A5 xc.length c5] 24 (0, 0)) from HBK4.out)
                have HBC := Aside0.mk (below_drew1 HB4.out)
                clear y0 y1 yf HBK4 HB4
                generalize ((w4.setCell ⟨gb, 0, none⟩ (.string xn)).setCell ⟨gb, 1, none⟩ (.slice A5 xc.length c5)).drew = w9 at BK HBC hHeld ⊢
                refine pure_ (i := 0) (N := some 52) (v := ?_) (a' := ?_) #[true, false, false, false, false, false, false, false, false, false, false, false, false, false, false, false, false, false, false, false, false, false, false, false, false, false, false, false, false] rfl rfl (any_of HT_.out (by kernel_rfl)) (fun _ _ _ h => h) (Or.inl ⟨by rfl, ?_⟩) ?_ ?_
                rotate_left
                · intro w'
                  go_simp
                  with_reducible rfl
                rotate_left
                · simp only [Act.put, List.setIfInBounds_toArray, List.set_cons_zero, List.set_cons_succ, i64_w, i32_w]
                  rfl
                refine pure_ (i := 1) (N := some 53) (v := ?_) (a' := ?_) #[true, true, false, false, false, false, false, false, false, false, false, false, false, false, false, false, false, false, false, false, false, false, false, false, false, false, false, false, false] rfl rfl (any_of HT_.out (by kernel_rfl)) (fun _ _ _ h => h) (Or.inl ⟨by rfl, ?_⟩) ?_ ?_
                rotate_left
                · intro w'
                  go_simp
                  with_reducible rfl
                rotate_left
                · simp only [Act.put, List.setIfInBounds_toArray, List.set_cons_zero, List.set_cons_succ, i64_w, i32_w]
                  rfl
                refine pure_ (i := 2) (N := some 54) (v := ?_) (a' := ?_) #[true, true, true, false, false, false, false, false, false, false, false, false, false, false, false, false, false, false, false, false, false, false, false, false, false, false, false, false, false] rfl rfl (any_of HT_.out (by kernel_rfl)) (fun _ _ _ h => h) (Or.inl ⟨by rfl, ?_⟩) ?_ ?_
                rotate_left
                · intro w'
                  go_simp
                  with_reducible rfl
                rotate_left
                · simp only [Act.put, List.setIfInBounds_toArray, List.set_cons_zero, List.set_cons_succ, i64_w, i32_w]
                  rfl
                refine pure_ (i := 4) (N := some 56) (v := ?_) (a' := ?_) #[true, true, true, false, true, false, false, false, false, false, false, false, false, false, false, false, false, false, false, false, false, false, false, false, false, false, false, false, false] rfl rfl (any_of HT_.out (by kernel_rfl)) (fun _ _ _ h => h) (Or.inl ⟨by rfl, ?_⟩) ?_ ?_
                rotate_left
                · intro w'
                  go_simp
                  with_reducible rfl
                rotate_left
                · simp only [Act.put, List.setIfInBounds_toArray, List.set_cons_zero, List.set_cons_succ, i64_w, i32_w]
                  rfl
                refine pure_ (i := 5) (N := some 57) (v := ?_) (a' := ?_) #[true, true, true, false, true, true, false, false, false, false, false, false, false, false, false, false, false, false, false, false, false, false, false, false, false, false, false, false, false] rfl rfl (any_of HT_.out (by kernel_rfl)) (fun _ _ _ h => h) (Or.inl ⟨by rfl, ?_⟩) ?_ ?_
                rotate_left
                · intro w'
                  go_simp
                  with_reducible rfl
                rotate_left
                · simp only [Act.put, List.setIfInBounds_toArray, List.set_cons_zero, List.set_cons_succ, i64_w, i32_w]
                  rfl
                refine pure_ (i := 6) (N := some 58) (v := ?_) (a' := ?_) #[true, true, true, false, true, true, true, false, false, false, false, false, false, false, false, false, false, false, false, false, false, false, false, false, false, false, false, false, false] rfl rfl (any_of HT_.out (by kernel_rfl)) (fun _ _ _ h => h) (Or.inl ⟨by rfl, ?_⟩) ?_ ?_
                rotate_left
                · intro w'
                  go_simp
                  with_reducible rfl
                rotate_left
                · simp only [Act.put, List.setIfInBounds_toArray, List.set_cons_zero, List.set_cons_succ, i64_w, i32_w]
                  rfl
                refine take_ (i := 3) (N := some 55) (v := ?_) (a' := ?_) #[true, true, true, true, true, true, true, false, false, false, false, false, false, false, false, false, false, false, false, false, false, false, false, false, false, false, false, false, false] rfl rfl (take_ofW HT_.out HW_.out (by kernel_rfl)) (fun _ _ _ h => h) (Or.inl ⟨by rfl, ?_⟩) hHeld ?_ ?_
                rotate_left
                · rintro w' ⟨s0, s1, s2, s3, s4⟩
                  go_simp
                  with_reducible rfl
                rotate_left
                · simp only [Act.put, List.setIfInBounds_toArray, List.set_cons_zero, List.set_cons_succ, i64_w, i32_w]
                  rfl
                refine take_ (i := 7) (N := some 59) (v := ?_) (a' := ?_) #[true, true, true, true, true, true, true, true, false, false, false, false, false, false, false, false, false, false, false, false, false, false, false, false, false, false, false, false, false] rfl rfl (take_ofW HT_.out HW_.out (by kernel_rfl)) (fun _ _ _ h => h) (Or.inl ⟨by rfl, ?_⟩) hHeld ?_ ?_
                rotate_left
                · rintro w' ⟨s0, s1, s2, s3, s4⟩
                  go_simp
                  with_reducible rfl
                rotate_left
                · simp only [Act.put, List.setIfInBounds_toArray, List.set_cons_zero, List.set_cons_succ, i64_w, i32_w]
                  rfl
                refine one_ (i := 8) (N := some 60) #[true, true, true, true, true, true, true, true, true, false, false, false, false, false, false, false, false, false, false, false, false, false, false, false, false, false, false, false, false] rfl rfl (one_of HT_.out (by kernel_rfl)) (by decide) (fun K hK => ?_)
                refine goes_ Tryz.func31 (by kernel_rfl) rfl #[.agg #[.string xn, .slice A5 xc.length c5], .agg #[.string xn, .slice A3 xc.length c3]] (by rfl) rfl rfl (by (try simp only [List.map_toArray, List.map_cons, List.map_nil]); first | done | rfl | (simp only [List.length_drop, List.length_take]; rfl)) ?_
                refine (colonnaderef11_Same.calls k xn A5 c5 xc xn A3 c3 xc true w9 (Kd.C_below HQ3.out HBC.out) HQ2.out (Kd.C_below HX3.out HBC.out) HX2.out HSAME.out).mono ?_
                rintro e w10 ⟨rfl, hb⟩
                refine ⟨_, rfl, ?_⟩
                have BK' := Aside0.mk ((hb.block gb (blk_lt BK.out)).trans BK.out)
                have HBC' := Aside0.mk (HBC.out.trans (hb.mono HBC.out.size))
                refine hK.out _ _ ⟨(blk_cell BK'.out 0).trans rfl, (blk_cell BK'.out 1).trans rfl, pw_cell_below HBC'.out hw0.out, pw_cell_below HBC'.out hw1.out, pw_cell_below HBC'.out hwp.out⟩ (fun hHeld => ?_)
                clear hK K
                refine norm_ (a' := ?_) ?_ ?_
                rotate_left
                · show Act.put _ (some 60) _ = _
                  simp only [Act.put, List.setIfInBounds_toArray, List.set_cons_zero, List.set_cons_succ, i64_w, i32_w]
                  rfl
                refine pure_ (i := 9) (N := some 61) (v := ?_) (a' := ?_) #[true, true, true, true, true, true, true, true, true, true, false, false, false, false, false, false, false, false, false, false, false, false, false, false, false, false, false, false, false] rfl rfl (any_of HT_.out (by kernel_rfl)) (fun _ _ _ h => h) (Or.inl ⟨by rfl, ?_⟩) ?_ ?_
                rotate_left
                · intro w'
                  go_simp
                  with_reducible rfl
                rotate_left
                · simp only [Act.put, List.setIfInBounds_toArray, List.set_cons_zero, List.set_cons_succ, i64_w, i32_w]
                  rfl
                refine pure_ (i := 10) (N := some 62) (v := ?_) (a' := ?_) #[true, true, true, true, true, true, true, true, true, true, true, false, false, false, false, false, false, false, false, false, false, false, false, false, false, false, false, false, false] rfl rfl (any_of HT_.out (by kernel_rfl)) (fun _ _ _ h => h) (Or.inl ⟨by rfl, ?_⟩) ?_ ?_
                rotate_left
                · intro w'
                  go_simp
                  with_reducible rfl
                rotate_left
                · simp only [Act.put, List.setIfInBounds_toArray, List.set_cons_zero, List.set_cons_succ, i64_w, i32_w]
                  rfl
                refine pure_ (i := 11) (N := some 63) (v := ?_) (a' := ?_) #[true, true, true, true, true, true, true, true, true, true, true, true, false, false, false, false, false, false, false, false, false, false, false, false, false, false, false, false, false] rfl rfl (any_of HT_.out (by kernel_rfl)) (fun _ _ _ h => h) (Or.inl ⟨by rfl, ?_⟩) ?_ ?_
                rotate_left
                · intro w'
                  go_simp
                  with_reducible rfl
                rotate_left
                · simp only [Act.put, List.setIfInBounds_toArray, List.set_cons_zero, List.set_cons_succ, i64_w, i32_w]
                  rfl
                refine pure_ (i := 12) (N := some 64) (v := ?_) (a' := ?_) #[true, true, true, true, true, true, true, true, true, true, true, true, true, false, false, false, false, false, false, false, false, false, false, false, false, false, false, false, false] rfl rfl (any_of HT_.out (by kernel_rfl)) (fun _ _ _ h => h) (Or.inl ⟨by rfl, ?_⟩) ?_ ?_
                rotate_left
                · intro w'
                  go_simp
                  with_reducible rfl
                rotate_left
                · simp only [Act.put, List.setIfInBounds_toArray, List.set_cons_zero, List.set_cons_succ, i64_w, i32_w]
                  rfl
                refine pure_ (i := 13) (N := some 65) (v := ?_) (a' := ?_) #[true, true, true, true, true, true, true, true, true, true, true, true, true, true, false, false, false, false, false, false, false, false, false, false, false, false, false, false, false] rfl rfl (any_of HT_.out (by kernel_rfl)) (fun _ _ _ h => h) (Or.inl ⟨by rfl, ?_⟩) ?_ ?_
                rotate_left
                · intro w'
                  go_simp
                  with_reducible rfl
                rotate_left
                · simp only [Act.put, List.setIfInBounds_toArray, List.set_cons_zero, List.set_cons_succ, i64_w, i32_w]
                  rfl
                refine pure_ (i := 14) (N := some 66) (v := ?_) (a' := ?_) #[true, true, true, true, true, true, true, true, true, true, true, true, true, true, true, false, false, false, false, false, false, false, false, false, false, false, false, false, false] rfl rfl (any_of HT_.out (by kernel_rfl)) (fun _ _ _ h => h) (Or.inl ⟨by rfl, ?_⟩) ?_ ?_
                rotate_left
                · intro w'
                  go_simp
                  with_reducible rfl
                rotate_left
                · simp only [Act.put, List.setIfInBounds_toArray, List.set_cons_zero, List.set_cons_succ, i64_w, i32_w]
                  rfl
                refine pure_ (i := 15) (N := some 67) (v := ?_) (a' := ?_) #[true, true, true, true, true, true, true, true, true, true, true, true, true, true, true, true, false, false, false, false, false, false, false, false, false, false, false, false, false] rfl rfl (any_of HT_.out (by kernel_rfl)) (fun _ _ _ h => h) (Or.inl ⟨by rfl, ?_⟩) ?_ ?_
                rotate_left
                · intro w'
                  go_simp
                  with_reducible rfl
                rotate_left
                · simp only [Act.put, List.setIfInBounds_toArray, List.set_cons_zero, List.set_cons_succ, i64_w, i32_w]
                  rfl
                refine pure_ (i := 16) (N := some 68) (v := ?_) (a' := ?_) #[true, true, true, true, true, true, true, true, true, true, true, true, true, true, true, true, true, false, false, false, false, false, false, false, false, false, false, false, false] rfl rfl (any_of HT_.out (by kernel_rfl)) (fun _ _ _ h => h) (Or.inl ⟨by rfl, ?_⟩) ?_ ?_
                rotate_left
                · intro w'
                  go_simp
                  with_reducible rfl
                rotate_left
                · simp only [Act.put, List.setIfInBounds_toArray, List.set_cons_zero, List.set_cons_succ, i64_w, i32_w]
                  rfl
                refine pure_ (i := 17) (N := some 69) (v := ?_) (a' := ?_) #[true, true, true, true, true, true, true, true, true, true, true, true, true, true, true, true, true, true, false, false, false, false, false, false, false, false, false, false, false] rfl rfl (any_of HT_.out (by kernel_rfl)) (fun _ _ _ h => h) (Or.inl ⟨by rfl, ?_⟩) ?_ ?_
                rotate_left
                · intro w'
                  go_simp
                  with_reducible rfl
                rotate_left
                · simp only [Act.put, List.setIfInBounds_toArray, List.set_cons_zero, List.set_cons_succ, i64_w, i32_w]
                  rfl
                refine pure_ (i := 18) (N := some 70) (v := ?_) (a' := ?_) #[true, true, true, true, true, true, true, true, true, true, true, true, true, true, true, true, true, true, true, false, false, false, false, false, false, false, false, false, false] rfl rfl (any_of HT_.out (by kernel_rfl)) (fun _ _ _ h => h) (Or.inl ⟨by rfl, ?_⟩) ?_ ?_
                rotate_left
                · intro w'
                  go_simp
                  with_reducible rfl
                rotate_left
                · simp only [Act.put, List.setIfInBounds_toArray, List.set_cons_zero, List.set_cons_succ, i64_w, i32_w]
                  rfl
                refine pure_ (i := 19) (N := some 71) (v := ?_) (a' := ?_) #[true, true, true, true, true, true, true, true, true, true, true, true, true, true, true, true, true, true, true, true, false, false, false, false, false, false, false, false, false] rfl rfl (any_of HT_.out (by kernel_rfl)) (fun _ _ _ h => h) (Or.inl ⟨by rfl, ?_⟩) ?_ ?_
                rotate_left
                · intro w'
                  go_simp
                  with_reducible rfl
                rotate_left
                · simp only [Act.put, List.setIfInBounds_toArray, List.set_cons_zero, List.set_cons_succ, i64_w, i32_w]
                  rfl
                refine pure_ (i := 21) (N := some 73) (v := ?_) (a' := ?_) #[true, true, true, true, true, true, true, true, true, true, true, true, true, true, true, true, true, true, true, true, false, true, false, false, false, false, false, false, false] rfl rfl (any_of HT_.out (by kernel_rfl)) (fun _ _ _ h => h) (Or.inl ⟨by rfl, ?_⟩) ?_ ?_
                rotate_left
                · intro w'
                  go_simp
                  with_reducible rfl
                rotate_left
                · simp only [Act.put, List.setIfInBounds_toArray, List.set_cons_zero, List.set_cons_succ, i64_w, i32_w]
                  rfl
                refine pure_ (i := 22) (N := some 74) (v := ?_) (a' := ?_) #[true, true, true, true, true, true, true, true, true, true, true, true, true, true, true, true, true, true, true, true, false, true, true, false, false, false, false, false, false] rfl rfl (any_of HT_.out (by kernel_rfl)) (fun _ _ _ h => h) (Or.inl ⟨by rfl, ?_⟩) ?_ ?_
                rotate_left
                · intro w'
                  go_simp
                  with_reducible rfl
                rotate_left
                · simp only [Act.put, List.setIfInBounds_toArray, List.set_cons_zero, List.set_cons_succ, i64_w, i32_w]
                  rfl
                refine pure_ (i := 23) (N := some 75) (v := ?_) (a' := ?_) #[true, true, true, true, true, true, true, true, true, true, true, true, true, true, true, true, true, true, true, true, false, true, true, true, false, false, false, false, false] rfl rfl (any_of HT_.out (by kernel_rfl)) (fun _ _ _ h => h) (Or.inl ⟨by rfl, ?_⟩) ?_ ?_
                rotate_left
                · intro w'
                  go_simp
                  with_reducible rfl
                rotate_left
                · simp only [Act.put, List.setIfInBounds_toArray, List.set_cons_zero, List.set_cons_succ, i64_w, i32_w]
                  rfl
                refine pure_ (i := 24) (N := some 76) (v := ?_) (a' := ?_) #[true, true, true, true, true, true, true, true, true, true, true, true, true, true, true, true, true, true, true, true, false, true, true, true, true, false, false, false, false] rfl rfl (any_of HT_.out (by kernel_rfl)) (fun _ _ _ h => h) (Or.inl ⟨by rfl, ?_⟩) ?_ ?_
                rotate_left
                · intro w'
                  go_simp
                  with_reducible rfl
                rotate_left
                · simp only [Act.put, List.setIfInBounds_toArray, List.set_cons_zero, List.set_cons_succ, i64_w, i32_w]
                  rfl
                refine take_ (i := 20) (N := some 72) (v := ?_) (a' := ?_) #[true, true, true, true, true, true, true, true, true, true, true, true, true, true, true, true, true, true, true, true, true, true, true, true, true, false, false, false, false] rfl rfl (take_ofW HT_.out HW_.out (by kernel_rfl)) (fun _ _ _ h => h) (Or.inl ⟨by rfl, ?_⟩) hHeld ?_ ?_
                rotate_left
                · rintro w' ⟨s0, s1, s2, s3, s4⟩
                  go_simp
                  with_reducible rfl
                rotate_left
                · simp only [Act.put, List.setIfInBounds_toArray, List.set_cons_zero, List.set_cons_succ, i64_w, i32_w]
                  rfl
                refine take_ (i := 25) (N := some 77) (v := ?_) (a' := ?_) #[true, true, true, true, true, true, true, true, true, true, true, true, true, true, true, true, true, true, true, true, true, true, true, true, true, true, false, false, false] rfl rfl (take_ofW HT_.out HW_.out (by kernel_rfl)) (fun _ _ _ h => h) (Or.inl ⟨by rfl, ?_⟩) hHeld ?_ ?_
                rotate_left
                · rintro w' ⟨s0, s1, s2, s3, s4⟩
                  go_simp
                  with_reducible rfl
                rotate_left
                · simp only [Act.put, List.setIfInBounds_toArray, List.set_cons_zero, List.set_cons_succ, i64_w, i32_w]
                  rfl
                refine pure_ (i := 26) (N := some 78) (v := ?_) (a' := ?_) #[true, true, true, true, true, true, true, true, true, true, true, true, true, true, true, true, true, true, true, true, true, true, true, true, true, true, true, false, false] rfl rfl (any_of HT_.out (by kernel_rfl)) (fun _ _ _ h => h) (Or.inl ⟨by rfl, ?_⟩) ?_ ?_
                rotate_left
                · intro w'
                  go_simp
                  with_reducible rfl
                rotate_left
                · simp only [Act.put, List.setIfInBounds_toArray, List.set_cons_zero, List.set_cons_succ, i64_w, i32_w]
                  rfl
                refine pure_ (i := 27) (N := some 79) (v := ?_) (a' := ?_) #[true, true, true, true, true, true, true, true, true, true, true, true, true, true, true, true, true, true, true, true, true, true, true, true, true, true, true, true, false] rfl rfl (any_of HT_.out (by kernel_rfl)) (fun _ _ _ h => h) (Or.inl ⟨by rfl, ?_⟩) ?_ ?_
                rotate_left
                · intro w'
                  go_simp
                  with_reducible rfl
                rotate_left
                · simp only [Act.put, List.setIfInBounds_toArray, List.set_cons_zero, List.set_cons_succ, i64_w, i32_w]
                  rfl
                refine pure_ (i := 28) (N := some 80) (v := ?_) (a' := ?_) #[true, true, true, true, true, true, true, true, true, true, true, true, true, true, true, true, true, true, true, true, true, true, true, true, true, true, true, true, true] rfl rfl (any_of HT_.out (by kernel_rfl)) (fun _ _ _ h => h) (Or.inl ⟨by rfl, ?_⟩) ?_ ?_
                rotate_left
                · intro w'
                  go_simp
                  with_reducible rfl
                rotate_left
                · simp only [Act.put, List.setIfInBounds_toArray, List.set_cons_zero, List.set_cons_succ, i64_w, i32_w]
                  rfl
                refine done_ (done_of HT_.out (by kernel_rfl)) ?_
                go_wp2
                go_roundg k2
                case measure => omega
                case rel => exact ⟨j + 1, by first | rw [HW64.out] | rfl, ⟨by have := HJ.out; exact ⟨by omega, by omega⟩⟩, ⟨HB2.out.trans (HBC'.out.mono HB2.out.size)⟩⟩
            · have c0' : decide ((j : Int) < (dl.length : Int)) = false := decide_eq_false (by omega)
              have hjd : j = dl.length := by have := HJ.out; omega
              clear cJ
              have HBW2 := Aside0.mk (HB.out.trans (HB2.out.mono HB.out.size))
              have HK2 := Aside0.mk (fun (W : World) (hb : Below wr.heap.size wr W) (p : Df) (cs : List Value) (h : k24.K w p cs) => k24.K_below (HBW2.out.trans (hb.mono HBW2.out.size)) h)
              have HROW2 := Aside0.mk (fun (W : World) (hb : Below wr.heap.size wr W) => (HROW.out.below HB2.out).below hb)
              have HBKz := Aside0.mk ((HB2.out.block w.heap.size (blk_lt HBK.out)).trans HBK.out)
              obtain ⟨b0, b1, bf⟩ := box_facts HBKz.out
              obtain ⟨e, he⟩ := Check_ends nm cols (by omega)
              have CP := Aside0.mk (fun (W : World) (hb : Below wr.heap.size wr W) => put_calls A2 c2 dl inner2 nm A1 c1 cols W (HROW2.out W hb) (HK2.out W hb) hc2 HD.out e he)
              have CBG := Aside0.mk (fun (W : World) (hb : Below wr.heap.size wr W) => colonnadelaw11_begun.calls k true W hbeg (HG.out.of (HBW2.out.trans (hb.mono HBW2.out.size))))
              have HBz := Aside0.mk (Below.refl wr.heap.size wr)
              have HBF := Aside0.mk (fun (W : World) (hb : Below wr.heap.size wr W) => HBW2.out.trans (hb.mono HBW2.out.size))
              have hok := fun (h : (putF dl nm cols e).2 = 0) => putF_ok (l := dl) (d := ⟨nm, cols⟩) (e := e) h
              generalize putF dl nm cols e = P at CP hok
              by_cases hz : P.2 = 0
              · obtain ⟨q1, q2, q3⟩ := hok hz
                have HAT := Aside0.mk (atI_ins (d := ⟨nm, cols⟩) HS.out q2)
                have HER := Aside0.mk (insD_erase dl ⟨nm, cols⟩)
                obtain ⟨P1, P2⟩ := P
                replace q1 : P1 = insD dl ⟨nm, cols⟩ := q1
                replace hz : P2 = 0 := hz
                subst hz
                rw [← q1] at HAT HER
                have hln : P1.length = dl.length + 1 := (congrArg List.length (show P1 = insD dl ⟨nm, cols⟩ from q1)).trans (insD_len dl ⟨nm, cols⟩)
                have HLN := Aside0.mk hln
                have hbig : P1.length * 40 ≤ 140737488355328 := by omega
                have hln2 : ((P1.length : Int) == (dl.length : Int) + 1) = true := by rw [hln]; simp
                clear hok q1 q2 hln
                have HSA := Aside0.mk (sameall_self dl M hM (by omega) HC.out k (by omega))
                have CDR := Aside0.mk (fun (W : World) (hb : Below wr.heap.size wr W) (A4 : Option Addr) (c4 : Nat) (inner4 : List Value) (hrow : RowIs (k24.K w) W A4 P1 inner4) (hc4 : P1.length ≤ c4) => drop_calls A4 c4 P1 inner4 nm W hrow (HK2.out W hb) hc4 hbig (by rw [HAT.out]; omega))
                rw [show atI P1 nm = (putI dl nm : Int) from HAT.out, show ((putI dl nm : Int).toNat) = putI dl nm from rfl, show P1.eraseIdx (putI dl nm) = dl from HER.out] at CDR
                go_wp2_with (first
                  | (go_at_call 32; refine (CP.out _ HBz.out).mono ?_; rintro x w5 ⟨hb5, A4, c4, inner4, rfl, hc4, hrow4⟩; have HB5 := Aside0.mk (HBz.out.trans (hb5.mono HBz.out.size)); have HR4 := Aside0.mk hrow4; have HC4 := Aside0.mk hc4; have HBK5 := Aside0.mk ((hb5.block w.heap.size (blk_lt HBKz.out)).trans HBKz.out); obtain ⟨d0, d1, df⟩ := box_facts HBK5.out; clear hb5 hrow4 hc4)
                  | (go_at_call 12; refine (CBG.out _ HB5.out).mono ?_; rintro x w6 ⟨rfl, hb6⟩; have HB6 := Aside0.mk (HB5.out.trans (hb6.mono HB5.out.size)); have HR6 := Aside0.mk (HR4.out.below hb6); have HBK6 := Aside0.mk ((hb6.block w.heap.size (blk_lt HBK5.out)).trans HBK5.out); obtain ⟨f0, f1, ff⟩ := box_facts HBK6.out; clear hb6)
                  | (go_at_call 34; refine (CDR.out _ HB6.out _ _ _ HR6.out HC4.out).mono ?_; rintro x w7 ⟨hb7, A7, c7, inner7, rfl, hc7, hrow7⟩; have HB7 := Aside0.mk (HB6.out.trans (hb7.mono HB6.out.size)); have HR7 := Aside0.mk hrow7; have HC7 := Aside0.mk hc7; clear hb7 hrow7 hc7)
                  | (go_at_call 35; refine (colonnaderef11_SameAll.calls k A7 c7 dl A2 c2 dl true w7 (HR7.out.toC (HK2.out _ HB7.out)) HC7.out ((HROW2.out _ HB7.out).toC (HK2.out _ HB7.out)) hc2 HSA.out).mono ?_; rintro x w8 ⟨rfl, hb8⟩; have HB8 := Aside0.mk (HB7.out.trans (hb8.mono HB7.out.size)); clear hb8))
                go_ret
                exact ⟨rfl, HBF.out _ HB8.out⟩
              · have hz2 : (P.2 == 0) = false := by simpa using hz
                have hz3 : (P.2 != 0) = true := by simpa using hz
                obtain ⟨P1, P2⟩ := P
                have hz2 : (P2 == 0) = false := hz2
                have hz3 : (P2 != 0) = true := hz3
                clear hok hz
                go_wp2_with (first
                  | (go_at_call 32; refine (CP.out _ HBz.out).mono ?_; rintro x w5 ⟨hb5, A4, c4, inner4, rfl, hc4, hrow4⟩; have HB5 := Aside0.mk (HBz.out.trans (hb5.mono HBz.out.size)); have HR4 := Aside0.mk hrow4; have HC4 := Aside0.mk hc4; clear hb5 hrow4 hc4)
                  | (go_at_call 12; refine (CBG.out _ ?hb).mono ?_; (case hb => first | exact HB6.out | exact HB5.out); rintro x w6 ⟨rfl, hb6⟩; have HB6' := Aside0.mk (by first | exact HB6.out.trans (hb6.mono HB6.out.size) | exact HB5.out.trans (hb6.mono HB5.out.size) : Below wr.heap.size wr w6); (try clear HB6); have HB6 := HB6'; clear hb6 HB6'))
                go_ret
                exact ⟨rfl, HBF.out _ HB6.out⟩
end Go.Proofs.YtmeopdjdjmjngaaGreatDoor.J
