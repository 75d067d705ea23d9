/- schema.Bytes, walked. -/
import Derived.Test.YtmeopdjdjmjngaaGreatDoorI5
import Derived.Test.YtmeopdjdjmjngaaGreatDoorCodS11
set_option linter.unusedVariables false
set_option linter.unusedSimpArgs false
namespace Go.Proofs.YtmeopdjdjmjngaaGreatDoor.I
open Go.RowKit Go.Lib Go.Proofs.YtmeopdjdjmjngaaGreatDoorW.PrintWords Go.Proofs.YtmeopdjdjmjngaaGreatDoorW.PrintLast Go.Proofs.YtmeopdjdjmjngaaGreatDoorW.PrintMore Go.Proofs.YtmeopdjdjmjngaaGreatDoor.Cod
abbrev AC := S36
def encC (c : AC) : List Int := sb c.f0 ++ [0, 0] ++ [128 + c.f1.f0] ++ [128 + c.f1.f1] ++ [if c.f2 then 129 else 128]
def encL (l : List AC) : List Int := l.flatMap encC
def encH (nm : ByteArray) (n : Nat) : List Int := sb nm ++ [0, 0] ++ [128 + (n : Int)]
def enc (nm : ByteArray) (l : List AC) : List Int := encH nm l.length ++ encL l
def ColOk (c : AC) : Prop := c.f0.size ≤ 32 ∧ NoZ c.f0 ∧ (0 ≤ c.f1.f0 ∧ c.f1.f0 < 120) ∧ (0 ≤ c.f1.f1 ∧ c.f1.f1 < 120)
def DefOk (nm : ByteArray) (l : List AC) : Prop := nm.size ≤ 32 ∧ NoZ nm ∧ l.length ≤ 32 ∧ ∀ c ∈ l, ColOk c
theorem encC_len (c : AC) : (encC c).length = c.f0.size + 5 := by unfold encC; simp only [List.length_append, sb_len, List.length_cons, List.length_nil]
theorem encH_len (nm : ByteArray) (n : Nat) : (encH nm n).length = nm.size + 3 := by unfold encH; simp only [List.length_append, sb_len, List.length_cons, List.length_nil]
theorem encL_len (l : List AC) (h : ∀ c ∈ l, ColOk c) : (encL l).length ≤ 37 * l.length := by
  induction l with
  | nil => simp [encL]
  | cons c l ih =>
    have := ih (fun x hx => h x (List.mem_cons_of_mem _ hx))
    have hc := (h c List.mem_cons_self).1
    unfold encL at this ⊢
    rw [List.flatMap_cons, List.length_append, encC_len, List.length_cons]
    omega
theorem enc_len {nm : ByteArray} {l : List AC} (h : DefOk nm l) : 3 ≤ (enc nm l).length ∧ (enc nm l).length ≤ 2000 := by
  have := encL_len l h.2.2.2
  have := h.1
  have := h.2.2.1
  unfold enc
  rw [List.length_append, encH_len]
  omega
theorem pre_len {nm : ByteArray} {l : List AC} (h : DefOk nm l) (i : Nat) : (encH nm l.length ++ encL (l.take i)).length ≤ 2000 := by
  have := encL_len (l.take i) (fun c hc => h.2.2.2 c (List.mem_of_mem_take hc))
  have h2 := h.1
  have := h.2.2.1
  have : (l.take i).length ≤ l.length := by rw [List.length_take]; omega
  rw [List.length_append, encH_len]
  omega
theorem Wr.less {W : World} {b base g : Nat} {xs : List Int} (h : Wr W b g xs) (hle : base ≤ b) : Wr W base g xs := by
  obtain ⟨h1, h2, v, h3, h4, h5⟩ := h
  exact ⟨Nat.le_trans hle h1, h2, v, h3, own_less h4 hle, h5⟩
theorem rdC_is (l : List AC) (i : Nat) (h : i < l.length) : rd_T36 l (i : Int) = l[i] := by
  unfold rd_T36
  rw [show ((i : Int).toNat) = i from rfl]
  simp [List.getD_eq_getElem?_getD, List.getElem?_eq_getElem h]
theorem encL_step (l : List AC) (i : Nat) (h : i < l.length) : encL (l.take (i + 1)) = encL (l.take i) ++ encC l[i] := by
  unfold encL
  rw [List.take_succ_eq_append_getElem h, List.flatMap_append]
  simp
theorem d36_facts {W : World} {g : Nat} {a b : Value} {t : TypeId} (h : W.heap[g]? = some (.cells #[a, b] t (0, 0))) : W.cell? ⟨g, 0, none⟩ = some a ∧ W.cell? ⟨g, 1, none⟩ = some b ∧ ∀ j, W.frozen? ⟨g, j, none⟩ = false :=
  ⟨by simp [World.cell?, h], by simp [World.cell?, h], fun j => by simp [World.frozen?, h]⟩
theorem c36_facts {W : World} {g : Nat} {a b c d : Value} {t : TypeId} (h : W.heap[g]? = some (.cells #[a, b, c, d] t (0, 0))) : W.cell? ⟨g, 0, none⟩ = some a ∧ W.cell? ⟨g, 1, none⟩ = some b ∧ W.cell? ⟨g, 2, none⟩ = some c ∧ W.cell? ⟨g, 3, none⟩ = some d ∧ ∀ j, W.frozen? ⟨g, j, none⟩ = false :=
  ⟨by simp [World.cell?, h], by simp [World.cell?, h], by simp [World.cell?, h], by simp [World.cell?, h], fun j => by simp [World.frozen?, h]⟩
theorem c36_box {W : World} {g : Nat} {a b c d : Value} {t : TypeId} (h : W.heap[g]? = some (.cells #[a, b, c, d] t (0, 0))) (a' b' c' d' : Value) :
    ((((W.setCell ⟨g, 0, none⟩ a').setCell ⟨g, 1, none⟩ b').setCell ⟨g, 2, none⟩ c').setCell ⟨g, 3, none⟩ d').heap[g]? = some (.cells #[a', b', c', d'] t (0, 0)) := by
  have h1 : (W.setCell ⟨g, 0, none⟩ a').heap[g]? = some (.cells #[a', b, c, d] t (0, 0)) := blk_set h 0 a'
  have h2 : ((W.setCell ⟨g, 0, none⟩ a').setCell ⟨g, 1, none⟩ b').heap[g]? = some (.cells #[a', b', c, d] t (0, 0)) := blk_set h1 1 b'
  have h3 : (((W.setCell ⟨g, 0, none⟩ a').setCell ⟨g, 1, none⟩ b').setCell ⟨g, 2, none⟩ c').heap[g]? = some (.cells #[a', b', c', d] t (0, 0)) := blk_set h2 2 c'
  exact blk_set h3 3 d'
set_option maxHeartbeats 8000000 in
set_option maxRecDepth 100000 in
theorem bytes_no (nm : ByteArray) (A1 : Option Addr) (c1 : Nat) (cols : List AC) (w : World) (hr1 : Kd.C k36 w A1 cols.length cols) (hc1 : cols.length ≤ c1) (r : Int) (hchk : schema_Check.f nm cols = some r) (h2 : ¬ (r = 0)) :
    Calls Tryz.prog 36 #[.agg #[.string nm, .slice A1 cols.length c1]] w fun e w' => e = .returned (.tuple #[.slice none 0 0, .int .i64 r]) ∧ Below w.heap.size w w' := by
  have hu24 := Tryz.underlying24
  have HB0 := Aside0.mk (below_alloc (Below.refl w.heap.size w) (.cells #[.string nm, .slice A1 cols.length c1] 24))
  have CHK := Aside0.mk (fun (W : World) (hb : Below w.heap.size w W) => schema_Check.calls nm A1 c1 cols r W (Kd.C_below hr1 hb) hc1 hchk)
  have hz : (r != 0) = true := by simpa using h2
  have hz2 : (r == 0) = false := by simpa using h2
  clear hr1 hchk h2
  go_enter Tryz.func36, Tryz.ntmps36
  go_wp2_with (go_at_call 18; refine (CHK.out _ HB0.out).mono ?_; rintro x w1 ⟨rfl, hb⟩; have HB1 := Aside0.mk (HB0.out.trans (hb.mono HB0.out.size)); clear hb)
  go_ret2
  exact ⟨rfl, HB1.out⟩
set_option maxHeartbeats 8000000 in
set_option maxRecDepth 100000 in
theorem bytes_yes (nm : ByteArray) (A1 : Option Addr) (c1 : Nat) (cols : List AC) (w : World) (hr1 : Kd.C k36 w A1 cols.length cols) (hc1 : cols.length ≤ c1) (hchk : schema_Check.f nm cols = some 0) (hok : DefOk nm cols) :
    Calls Tryz.prog 36 #[.agg #[.string nm, .slice A1 cols.length c1]] w fun e w' => ∃ v', e = .returned (.tuple #[v', .int .i64 0]) ∧ w'.ownsRow w.heap.size 5 1 v' (enc nm cols).length (nums .u8 (enc nm cols)) ∧ Below w.heap.size w w' := by
  have hu24 := Tryz.underlying24
  have hu36 := Tryz.underlying36
  have hu34 := Tryz.underlying34
  have hlen32 : cols.length ≤ 32 := hok.2.2.1
  have HB0 := Aside0.mk (below_alloc (Below.refl w.heap.size w) (.cells #[.string nm, .slice A1 cols.length c1] 24))
  have HK0 := Aside0.mk (heap_alloc_new w (.cells #[.string nm, .slice A1 cols.length c1] 24))
  have CHK := Aside0.mk (fun (W : World) (hb : Below w.heap.size w W) => schema_Check.calls nm A1 c1 cols 0 W (Kd.C_below hr1 hb) hc1 hchk)
  have HR1 := Aside0.mk hr1
  have HOK := Aside0.mk hok
  clear hr1 hchk hok hc1
  go_enter Tryz.func36, Tryz.ntmps36
  go_wp2_with (first
    | (go_at_call 18; refine (CHK.out _ HB0.out).mono ?_; rintro x w1 ⟨rfl, hb⟩; have HB1 := Aside0.mk (HB0.out.trans (hb.mono HB0.out.size)); have HK1 := Aside0.mk ((hb.block w.heap.size (blk_lt HK0.out)).trans HK0.out); have HL1 := Aside0.mk (blk_lt HK1.out); clear hb)
    | (go_at_call 66; refine (newWriter_calls w1).mono ?_; rintro x w2 ⟨g, rfl, hw, hb⟩; have HW2 := Aside0.mk hw; have HD2 := Aside0.mk hb; have HK2 := Aside0.mk ((HD2.out.block w.heap.size HL1.out).trans HK1.out); obtain ⟨b0, b1, bf⟩ := d36_facts HK2.out; clear hb hw)
    | (go_at_call 67; refine (text_calls nm HW2.out HD2.out.size HOK.out.2.1 (by have := HOK.out.1; simp only [List.length_nil]; omega)).mono ?_; rintro x w3 ⟨rfl, hw, hb, _⟩; have HW3 := Aside0.mk hw; have HD3 := Aside0.mk (HD2.out.trans hb); have HK3 := Aside0.mk ((HD3.out.block w.heap.size HL1.out).trans HK1.out); replace b1 := (d36_facts HK3.out).2.1; clear hb hw)
    | (go_at_call 68; refine (int_calls (cols.length : Int) (by omega) (by omega) HW3.out HD3.out.size (by have := HOK.out.1; simp only [List.length_append, List.length_nil, sb_len, List.length_cons]; omega)).mono ?_; rintro x w4 ⟨rfl, hw, hb, _⟩; have HW4 := Aside0.mk hw; have HD4 := Aside0.mk (HD3.out.trans hb); have HK4 := Aside0.mk ((HD4.out.block w.heap.size HL1.out).trans HK1.out); replace b1 := (d36_facts HK4.out).2.1; clear hb hw))
  have HW4' : Aside0 (Wr w4 w1.heap.size g (encH nm cols.length ++ encL (cols.take 0))) := ⟨by have := HW4.out; simpa [encH, encL, List.append_assoc] using this⟩
  go_loopg [26] (cols.length + 1) (fun kq v26 w' => ∃ i : Nat, v26 = .int .i64 (i : Int) ∧ Aside0 (i + kq = cols.length + 1 ∧ i ≤ cols.length) ∧ Aside0 (Wr w' w1.heap.size g (encH nm cols.length ++ encL (cols.take i))) ∧ Aside0 (Below w1.heap.size w1 w'))
  case atStart => exact ⟨0, rfl, ⟨⟨by omega, by omega⟩⟩, ⟨HW4'.out⟩, ⟨HD4.out⟩⟩
  case round =>
    obtain ⟨i, rfl, HI, HWr, HDr⟩ := hrel
    cases gk with
    | zero => exact absurd HI.out (by omega)
    | succ k1 =>
      rcases Nat.lt_or_ge i cols.length with cI | cI
      · have c0 : decide ((i : Int) < (cols.length : Int)) = true := decide_eq_true (by omega)
        have HBr := Aside0.mk (HB1.out.trans (HDr.out.mono HB1.out.size))
        obtain ⟨adc, ec, k0, k1', k2', k3⟩ := at_T36 (Kd.C_below HR1.out HBr.out) (i : Int) (by omega) (by omega)
        rw [show ((i : Int).toNat) = i from rfl] at k0 k1' k2' k3
        have hcol := HOK.out.2.2.2 _ (List.getElem_mem cI)
        have hstep := encL_step cols i cI
        have hpre := pre_len HOK.out i
        rw [rdC_is cols i cI] at k0 k1' k2' k3
        generalize cols[i] = cc at k0 k1' k2' k3 hcol hstep
        obtain ⟨cn, ⟨ct0, ct1⟩, nn⟩ := cc
        cases ec
        have g0 := k0
        have g1 := k1'
        have g2 := k2'
        have g3 := k3
        clear k0 k1' k2' k3
        have HW64 := Aside0.mk (show wrap64 ((i : Int) + 1) = ((i + 1 : Nat) : Int) by unfold wrap64; omega)
        have HS := Aside0.mk (show encH nm cols.length ++ encL (cols.take (i + 1)) = encH nm cols.length ++ encL (cols.take i) ++ (sb cn ++ [0, 0]) ++ [128 + ct0] ++ [128 + ct1] ++ [if nn then 129 else 128] by rw [hstep]; simp only [encC, List.append_assoc])
        generalize hxs : encH nm cols.length ++ encL (cols.take i) = xs at HS hpre HWr
        obtain ⟨q1, q2, ⟨q3, q4⟩, q5, q6⟩ := hcol
        have HNZ := Aside0.mk q2
        replace q1 : cn.size ≤ 32 := q1
        replace q3 : 0 ≤ ct0 := q3
        replace q4 : ct0 < 120 := q4
        replace q5 : 0 ≤ ct1 := q5
        replace q6 : ct1 < 120 := q6
        have HQ := Aside0.mk (show cn.size ≤ 32 ∧ (0 ≤ ct0 ∧ ct0 < 120) ∧ (0 ≤ ct1 ∧ ct1 < 120) ∧ xs.length ≤ 2000 from ⟨q1, ⟨q3, q4⟩, ⟨q5, q6⟩, hpre⟩)
        clear q1 q2 q3 q4 q5 q6 hpre hstep hxs
        go_wp2_with (first
          | ((with_reducible refine gate_dst (N := 7) rfl ?_); (try (refine gate_guard (by rfl) ?_; dsimp only)); refine box_event ?hg (N := 7) ?hd (cs := #[.string (⟨#[]⟩ : ByteArray), .int .i64 0, .int .i64 0, .bool false]) (t := 36) ?hr ?_; (case hd => rfl); (case hg => rfl); (case hr => first | (go_simp; done) | (go_simp; rfl)); intro gb hg w4 hbox hb; obtain ⟨y0, y1, y2, y3, yf⟩ := c36_facts hbox; have HK4 := Aside0.mk (c36_box hbox (.string cn) (.int .i64 ct0) (.int .i64 ct1) (.bool nn)); have HE4 := Aside0.mk ((((hb.setCell (p := ⟨gb, 0, none⟩) (Nat.le_of_eq hg.symm) (.string cn)).setCell (p := ⟨gb, 1, none⟩) (Nat.le_of_eq hg.symm) (.int .i64 ct0)).setCell (p := ⟨gb, 2, none⟩) (Nat.le_of_eq hg.symm) (.int .i64 ct1)).setCell (p := ⟨gb, 3, none⟩) (Nat.le_of_eq hg.symm) (.bool nn)); clear hg hbox hb g0 g1 g2 g3)
          | (go_at_call 67; refine (text_calls cn (HWr.out.below HE4.out) (Nat.le_trans HDr.out.size HE4.out.size) HNZ.out (by have := HQ.out; omega)).mono ?_; rintro x w5 ⟨rfl, hw, hb, hp⟩; have HW5 := Aside0.mk hw; have HD5 := Aside0.mk ((HDr.out.trans (HE4.out.mono HDr.out.size)).trans hb); have HK5 := Aside0.mk (hp _ _ _ _ HK4.out (by decide) (by decide)); obtain ⟨z0, z1, z2, z3, zf⟩ := c36_facts HK5.out; clear hw hb hp)
          | (go_at_call 68; refine (int_calls ct0 HQ.out.2.1.1 HQ.out.2.1.2 HW5.out HD5.out.size (by have := HQ.out; simp only [List.length_append, sb_len, List.length_cons, List.length_nil]; omega)).mono ?_; rintro x w6 ⟨rfl, hw, hb, hp⟩; have HW6 := Aside0.mk hw; have HD6 := Aside0.mk (HD5.out.trans hb); have HK6 := Aside0.mk (hp _ _ _ _ HK5.out (by decide) (by decide)); obtain ⟨v0, v1, v2, v3, vf⟩ := c36_facts HK6.out; clear hw hb hp HW5)
          | (go_at_call 68; refine (int_calls ct1 HQ.out.2.2.1.1 HQ.out.2.2.1.2 HW6.out HD6.out.size (by have := HQ.out; simp only [List.length_append, sb_len, List.length_cons, List.length_nil]; omega)).mono ?_; rintro x w7 ⟨rfl, hw, hb, hp⟩; have HW7 := Aside0.mk hw; have HD7 := Aside0.mk (HD6.out.trans hb); have HK7 := Aside0.mk (hp _ _ _ _ HK6.out (by decide) (by decide)); obtain ⟨u0, u1, u2, u3, uf⟩ := c36_facts HK7.out; clear hw hb hp)
          | (go_at_call 69; refine (flag_calls nn HW7.out HD7.out.size (by have := HQ.out; simp only [List.length_append, sb_len, List.length_cons, List.length_nil]; omega)).mono ?_; rintro x w8 ⟨rfl, hw, hb, hp⟩; have HW8 := Aside0.mk hw; have HD8 := Aside0.mk (HD7.out.trans hb); clear hw hb hp))
        go_roundg k1
        case measure => omega
        case rel => exact ⟨i + 1, by first | rw [HW64.out] | rfl, ⟨by have := HI.out; exact ⟨by omega, by omega⟩⟩, ⟨by rw [HS.out]; exact HW8.out⟩, ⟨HD8.out⟩⟩
      · have hI : i = cols.length := by have := HI.out; omega
        subst hI
        have c0 : decide ((cols.length : Int) < (cols.length : Int)) = false := decide_eq_false (by omega)
        have hw := HWr.out
        rw [List.take_length] at hw
        have hl := enc_len HOK.out
        have HO := Aside0.mk (out_calls hw (by have := hl.1; unfold enc at this; omega) (by have := hl.2; unfold enc at this; omega))
        clear hw hl HWr
        go_wp2_with (go_at_call 70; refine HO.out.mono ?_; rintro x w5 ⟨v5, rfl, ho, hb⟩; have HO5 := Aside0.mk (own_less ho (Nat.le_trans HB1.out.size HDr.out.size)); have HB5 := Aside0.mk ((HB1.out.trans (HDr.out.mono HB1.out.size)).trans (hb.mono (Nat.le_trans HB1.out.size HDr.out.size))); clear ho hb)
        go_ret2
        exact ⟨v5, rfl, HO5.out, HB5.out⟩
end Go.Proofs.YtmeopdjdjmjngaaGreatDoor.I
