/- codec's Writer: Text of a text without a zero, Int of a small number, Flag, Out, NewWriter. -/
import Derived.Test.YtmeopdjdjmjngaaGreatDoorCod11
import Derived.Laws.IdiomStrings
set_option linter.unusedVariables false
set_option linter.unusedSimpArgs false
namespace Go.Proofs.YtmeopdjdjmjngaaGreatDoor.Cod
open Go.RowKit Go.Lib Go.Proofs.YtmeopdjdjmjngaaGreatDoorW.PrintWords Go.Proofs.YtmeopdjdjmjngaaGreatDoorW.PrintLast
set_option maxHeartbeats 4000000 in
set_option maxRecDepth 100000 in
theorem replaceAll_calls (ad : Addr) (c b2 b3 : Nat) (xs : List Int) (W : World) (hx : BytesAt W ad xs) (h2 : W.cell? ⟨b2, 0, none⟩ = some (.int .u8 0)) (hz : countByte (Lib.bytesOf xs) (0 : Int).toNat.toUInt8 = 0) (hfit : xs.length ≤ 1048576) :
    Calls Tryz.prog 149 #[.slice (some ad) xs.length c, .slice (some ⟨b2, 0, none⟩) 1 1, .slice (some ⟨b3, 0, none⟩) 2 2] W fun e w' => ∃ v', e = .returned v' ∧ w'.ownsRow W.heap.size 5 1 v' xs.length (nums .u8 xs) ∧ Below W.heap.size W w' := by
  have C := Aside0.mk (replace_calls ad c b2 1 b3 xs W hx h2 hz hfit)
  clear hx h2 hz
  go_enter Tryz.func149, Tryz.ntmps149
  go_wp2_with (go_at_call 182; refine C.out.mono ?_; rintro e w1 ⟨v1, rfl, h1, h2⟩; have H1 := Aside0.mk h1; have H2 := Aside0.mk h2; clear h1 h2)
  go_ret
  exact ⟨_, rfl, H1.out, H2.out⟩
theorem own_bytes {w : World} {base : Nat} {v : Value} {xs : List Int} (ho : w.ownsRow base 5 1 v xs.length (nums .u8 xs)) : ∃ A c, v = .slice A xs.length c ∧ xs.length ≤ c ∧ Kd.C (Kd.int .u8) w A xs.length xs :=
  Kd.R_reads (Kd.R_of_own (ok := fun _ => True) ho (fun _ _ => trivial))
set_option maxHeartbeats 4000000 in
set_option maxRecDepth 100000 in
theorem wbytes_calls {W : World} {base g c : Nat} {xs ys : List Int} {ad : Addr} (hw : Wr W base g xs) (hb : base ≤ W.heap.size) (hx : BytesAt W ad ys) (hz : countByte (Lib.bytesOf ys) (0 : Int).toNat.toUInt8 = 0) (hfit : xs.length + ys.length + 2 ≤ 1048576) :
    Calls Tryz.prog 109 #[.pointer (some ⟨g, 0, none⟩), .slice (some ad) ys.length c] W fun e w' => e = .returned (.int .i64 0) ∧ Wr w' base g (xs ++ (ys ++ [0, 0])) ∧ Below base W w' ∧ Keeps W w' := by
  obtain ⟨i0, hi0, hz0, hzs, hzb⟩ := info_parts i5
  have h12 : Below W.heap.size W ((W.alloc (.cells #[.int .u8 0] 5)).alloc (.cells #[.int .u8 0, .int .u8 1] 5)) := below_alloc (below_alloc (Below.refl _ _) _) _
  have CR := Aside0.mk (replaceAll_calls ad c W.heap.size (W.heap.size + 1) ys ((W.alloc (.cells #[.int .u8 0] 5)).alloc (.cells #[.int .u8 0, .int .u8 1] 5)) (fun i hi => pw_cell_below h12 (hx i hi)) (by simp) hz (by omega))
  have H12 := Aside0.mk h12
  have HW := Aside0.mk hw
  clear hw hx hz h12
  go_enter Tryz.func109, Tryz.ntmps109
  go_wp2_with (first
    | (go_at_call 149; refine CR.out.mono ?_; rintro e w1 ⟨v1, rfl, ho1, hb1⟩; obtain ⟨A1, c1, rfl⟩ := own_slice ho1; have HO1 := Aside0.mk ho1; have HB1 := Aside0.mk (H12.out.trans (hb1.mono H12.out.size)); have HS1 := Aside0.mk hb1.size; clear ho1 hb1)
    | (at_builtin; refine wpList_append_own _ rfl _ _ 62 rfl _ 5 i0 (.int .u8 0) 1 1 u62 hi0 hz0 hzs hzb rfl (by decide) _ _ _ rfl (own_move HO1.out (fun k hk => heap_alloc_old _ _ (own_lt HO1.out k hk))) ⟨w1.heap.size, 0, none⟩ 2 2 [.int .u8 0, .int .u8 0] rfl ?qc1 ?qc2 ?qc3 ?qc4 ?qc5 ?qc6 ?_))
  case qc1 => rfl
  case qc2 =>
    intro j u hj
    rw [Addr.add_lit, Nat.zero_add]
    obtain ⟨f0, f1, _⟩ := w_facts (heap_alloc_new w1 (.cells #[.int .u8 0, .int .u8 0] 5 (0, 0)))
    match j, hj with
    | 0, hj => rw [← Option.some.inj hj]; exact f0
    | 1, hj => rw [← Option.some.inj hj]; exact f1
    | j + 2, hj => simp at hj
  case qc3 => intro u hu; simp at hu; rw [hu]; rfl
  case qc4 => unfold maxLen; omega
  case qc5 => omega
  case qc6 => exact Nat.le_trans HS1.out (by simp)
  intro v3 w3 hown hgrow _
  have HB3 := Aside0.mk ((HB1.out.alloc HB1.out.size (.cells #[.int .u8 0, .int .u8 0] 5 (0, 0))).grown hgrow (Nat.le_trans HB1.out.size (by simp)) (fun k hk => Nat.le_trans H12.out.size (own_base HO1.out k hk)))
  have ho3 : w3.ownsRow (W.heap.size + 1 + 1) 5 1 v3 (ys ++ [0, 0]).length (nums .u8 (ys ++ [0, 0])) := by
    rw [List.length_append]
    unfold nums at hown ⊢
    rw [List.map_append]
    exact hown
  obtain ⟨zs, hzs2⟩ : ∃ zs, zs = ys ++ [0, 0] := ⟨_, rfl⟩
  have hzl : zs.length = ys.length + 2 := by rw [hzs2]; simp
  rw [← hzs2] at ho3
  have HE := Aside0.mk hzs2
  obtain ⟨A3, c3, rfl, _, hC⟩ := own_bytes ho3
  have CM := Aside0.mk (more_calls (A := A3) (c := c3) (HW.out.below HB3.out) hC (by omega) (by omega))
  clear hown hgrow ho3 hC hzs2 hzl
  go_wp2_with (go_at_call 110; refine CM.out.mono ?_; rintro e w4 ⟨rfl, hw4, hb4, hp4⟩; have HW4 := Aside0.mk hw4; have HP4 := Aside0.mk ((Keeps.of_below HB3.out).trans hp4); have HB4 := Aside0.mk ((HB3.out.mono hb).trans hb4); clear hw4 hb4 hp4)
  go_ret
  exact ⟨rfl, by rw [← HE.out]; exact HW4.out, HB4.out, HP4.out⟩
/-- a text's bytes -/
def sb (s : ByteArray) : List Int := s.data.toList.map fun b => (b.toNat : Int)
theorem sb_len (s : ByteArray) : (sb s).length = s.size := by unfold sb; rw [List.length_map, Array.length_toList]; rfl
theorem new_bytes (W : World) (s : ByteArray) (cap : Nat) (fr : Nat × Nat) : BytesAt (W.alloc (.cells (bytesRow s cap) 5 fr)) ⟨W.heap.size, 0, none⟩ (sb s) := by
  intro i hi
  rw [sb_len] at hi
  rw [Addr.add_lit, Nat.zero_add]
  have hn := heap_alloc_new W (.cells (bytesRow s cap) 5 fr)
  have hd : i < s.data.size := hi
  have hr : (bytesRow s cap)[i]? = some (.int .u8 (s.data[i].toNat : Int)) := by
    unfold bytesRow
    rw [Array.getElem?_append_left (by simpa using hd), Array.getElem?_map, Array.getElem?_eq_getElem hd]
    rfl
  unfold World.cell?
  rw [hn]
  show (bytesRow s cap)[i]? = _
  rw [hr]
  unfold sb
  rw [List.getD_eq_getElem?_getD, List.getElem?_map, Array.getElem?_toList, Array.getElem?_eq_getElem hd]
  rfl
set_option maxHeartbeats 4000000 in
set_option maxRecDepth 100000 in
theorem text_calls {W : World} {base g : Nat} {xs : List Int} (s : ByteArray) (hw : Wr W base g xs) (hb : base ≤ W.heap.size) (hz : countByte (Lib.bytesOf (sb s)) (0 : Int).toNat.toUInt8 = 0) (hfit : xs.length + s.size + 2 ≤ 1048576) :
    Calls Tryz.prog 67 #[.pointer (some ⟨g, 0, none⟩), .string s] W fun e w' => e = .returned (.int .i64 0) ∧ Wr w' base g (xs ++ (sb s ++ [0, 0])) ∧ Below base W w' ∧ Keeps W w' := by
  have kc := fun (W : World) => run_bytes_of_string (P := Tryz.prog) W 9 62 5 s Tryz.underlying9 Tryz.underlying62 Tryz.underlying5
  generalize hcap : grownCap W s.size 0 5 = cap at *
  have hB := below_alloc (below_drew1 (Below.refl W.heap.size W)) (.cells (bytesRow s cap) 5 ((bytesRow s cap).size, (bytesRow s cap).size + 1))
  have CW := wbytes_calls (c := cap) (hw.below hB) (Nat.le_trans hb hB.size) (new_bytes W.drew s cap ((bytesRow s cap).size, (bytesRow s cap).size + 1)) hz (by rw [sb_len]; exact hfit)
  rw [sb_len] at CW
  have CW' := Aside0.mk CW
  have HB := Aside0.mk (hB.mono hb)
  have HP := Aside0.mk (Keeps.of_below hB)
  have kc0 := kc W
  rw [hcap] at kc0
  clear CW hw hz hB kc hcap
  go_enter Tryz.func67, Tryz.ntmps67
  go_wp2_with (go_at_call 109; refine CW'.out.mono ?_; rintro e w1 ⟨rfl, h1, h2, h3⟩; have H1 := Aside0.mk h1; have H2 := Aside0.mk (HB.out.trans h2); have H3 := Aside0.mk (HP.out.trans h3); clear h1 h2 h3)
  go_ret
  exact ⟨rfl, H1.out, H2.out, H3.out⟩
end Go.Proofs.YtmeopdjdjmjngaaGreatDoor.Cod
