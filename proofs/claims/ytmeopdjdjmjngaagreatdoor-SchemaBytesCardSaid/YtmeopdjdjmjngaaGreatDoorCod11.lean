/- codec's Writer: what it holds, and what each of its methods puts behind it. -/
import Derived.Test.YtmeopdjdjmjngaaGreatDoorProg
import Derived.Test.YtmeopdjdjmjngaaGreatDoorVI
import Derived.Shelf.RegionOpenPlain
import Derived.WalkKit
import Derived.Lib.SliceRun
import Derived.OwnWalk
import Derived.KernelRfl
import Derived.Shelf.Bytes.SlCountOne
set_option linter.unusedVariables false
set_option linter.unusedSimpArgs false
namespace Go.Proofs.YtmeopdjdjmjngaaGreatDoor.Cod
open Go.RowKit Go.Lib Go.Proofs.YtmeopdjdjmjngaaGreatDoorW.PrintWords Go.Proofs.YtmeopdjdjmjngaaGreatDoorW.PrintLast
theorem bytes_cells {W : World} {A : Option Addr} {ys : List Int} (h : Kd.C (Kd.int .u8) W A ys.length ys) (hp : 0 < ys.length) : ∃ ad, A = some ad ∧ ∀ j u, (nums .u8 ys)[j]? = some u → W.cell? (ad.add j) = some u := by
  obtain ⟨ad, e, _⟩ := Kd.at_int h 0 (by omega) (by omega)
  refine ⟨ad, e, fun j u hj => ?_⟩
  have hlt : j < ys.length := by
    have := (List.getElem?_eq_some_iff.1 hj).1
    simpa [nums] using this
  obtain ⟨ad', e', hc⟩ := Kd.at_int h (j : Int) (by omega) (by omega)
  obtain rfl := Option.some.inj (e.symm.trans e')
  rw [show ((j : Int).toNat) = j from rfl] at hc
  rw [hc]
  unfold nums at hj
  rw [List.getElem?_map, List.getElem?_eq_getElem hlt] at hj
  rw [← hj]
  unfold rd
  rw [show ((j : Int).toNat) = j from rfl, List.getD_eq_getElem?_getD, List.getElem?_eq_getElem hlt]
  rfl
theorem nums_one (ys : List Int) : ∀ u ∈ nums .u8 ys, u.oneCell' = true := by
  intro u hu
  unfold nums at hu
  obtain ⟨x, _, rfl⟩ := List.mem_map.1 hu
  rfl
theorem nums_len (ys : List Int) : (nums .u8 ys).length = ys.length := by unfold nums; rw [List.length_map]
theorem i5 : (Tryz.prog.info? 5).map (fun i => (i.zero, i.size, i.bytes)) = some (some (.int .u8 0), 1, 1) := by kernel_rfl
theorem u62 : Tryz.prog.underlying 62 = some (.slice 5) := Tryz.underlying62
/-- what a Writer holds -/
def Wr (W : World) (base g : Nat) (xs : List Int) : Prop := base ≤ g ∧ g < W.heap.size ∧ ∃ v, W.heap[g]? = some (.cells #[.bool true, v] 141 (0, 0)) ∧ W.ownsRow base 5 1 v xs.length (nums .u8 xs) ∧ v.ownBlock ≠ some g
theorem w_facts {W : World} {g : Nat} {x y : Value} {t : TypeId} (h : W.heap[g]? = some (.cells #[x, y] t (0, 0))) : W.cell? ⟨g, 0, none⟩ = some x ∧ W.cell? ⟨g, 1, none⟩ = some y ∧ ∀ j, W.frozen? ⟨g, j, none⟩ = false :=
  ⟨by simp [World.cell?, h], by simp [World.cell?, h], fun j => by simp [World.frozen?, h]⟩
theorem Wr.below {W W1 : World} {base g : Nat} {xs : List Int} (h : Wr W base g xs) (hb : Below W.heap.size W W1) : Wr W1 base g xs := by
  obtain ⟨h1, h2, v, h3, h4, h5⟩ := h
  exact ⟨h1, Nat.lt_of_lt_of_le h2 hb.size, v, (hb.block g h2).trans h3, own_move h4 (fun k hk => hb.block k (own_lt h4 k hk)), h5⟩
/-- what other types' blocks hold is kept -/
def Keeps (W W' : World) : Prop := ∀ (k : Nat) (cs : Array Value) (t : TypeId) (fr : Nat × Nat), W.heap[k]? = some (.cells cs t fr) → t ≠ 5 → t ≠ 141 → W'.heap[k]? = some (.cells cs t fr)
theorem Keeps.trans {W W1 W2 : World} (h : Keeps W W1) (h2 : Keeps W1 W2) : Keeps W W2 := fun k cs t fr a b c => h2 k cs t fr (h k cs t fr a b c) b c
theorem Keeps.of_below {W W1 : World} (h : Below W.heap.size W W1) : Keeps W W1 := fun k cs t fr a b c => (h.block k (blk_lt a)).trans a
set_option maxHeartbeats 4000000 in
set_option maxRecDepth 100000 in
theorem more_calls {W : World} {base g c : Nat} {xs ys : List Int} {A : Option Addr} (hw : Wr W base g xs) (hy : Kd.C (Kd.int .u8) W A ys.length ys) (hp : 0 < ys.length) (hfit : xs.length + ys.length ≤ 1048576) :
    Calls Tryz.prog 110 #[.pointer (some ⟨g, 0, none⟩), .slice A ys.length c] W fun e w' => e = .returned (.int .i64 0) ∧ Wr w' base g (xs ++ ys) ∧ Below base W w' ∧ Keeps W w' := by
  obtain ⟨h1, h2, v, h3, h4, h5⟩ := hw
  obtain ⟨ad, rfl, hc⟩ := bytes_cells hy hp
  obtain ⟨i0, hi0, hz0, hzs, hzb⟩ := info_parts i5
  obtain ⟨b0, b1, bf⟩ := w_facts h3
  have hu141 := Tryz.underlying141
  have hgt : ¬ ((ys.length : Int) > 1048576 - (xs.length : Int)) := by omega
  have HO := Aside0.mk h4
  have HC := Aside0.mk hc
  have HK := Aside0.mk h3
  have hvl : ∃ A1 c1, v = .slice A1 xs.length c1 := own_slice h4
  obtain ⟨A1, c1, rfl⟩ := hvl
  clear hy h4 hc h3
  go_enter Tryz.func110, Tryz.ntmps110
  go_upto_region 5 with fail
  go_wp2_with (at_builtin; refine wpList_append_own _ rfl _ _ 62 rfl base 5 i0 (.int .u8 0) 1 1 u62 hi0 hz0 hzs hzb rfl (by decide) _ _ _ rfl HO.out ad ys.length c (nums .u8 ys) rfl ?qc1 ?qc2 ?qc3 ?qc4 ?qc5 ?qc6 ?_)
  case qc1 => rw [nums_len]
  case qc2 => exact HC.out
  case qc3 => exact nums_one ys
  case qc4 => unfold maxLen; omega
  case qc5 => omega
  case qc6 => omega
  intro v1 w1 hown hgrow _
  have hk1 : w1.heap[g]? = some (.cells #[.bool true, .slice A1 xs.length c1] 141 (0, 0)) := (hgrow.block g h2 (fun q => h5 q.symm)).trans HK.out
  obtain ⟨d0, d1, df⟩ := w_facts hk1
  have HK1 := Aside0.mk hk1
  have hne : v1.ownBlock ≠ some g := fun q => by
    obtain ⟨cells, hq⟩ := own_typed hown g q
    rw [hk1] at hq
    injection hq with hq
    injection hq with _ hq
    exact absurd hq (by decide)
  have e1 : nums .u8 xs ++ nums .u8 ys = nums .u8 (xs ++ ys) := by unfold nums; rw [List.map_append]
  rw [e1] at hown
  obtain ⟨A2, c2, rfl⟩ := own_slice hown
  have HO1 := Aside0.mk hown
  have HB1 := Aside0.mk (((Below.refl base W).grown hgrow (by omega) (fun k hk => own_base HO.out k hk)).setCell (p := ⟨g, 1, none⟩) h1 (.slice A2 (xs.length + ys.length) c2))
  have HWr : Aside0 (Wr (w1.setCell ⟨g, 1, none⟩ (.slice A2 (xs.length + ys.length) c2)) base g (xs ++ ys)) := ⟨h1, by have := hgrow.size; simp [World.setCell]; omega, _, blk_set hk1 1 _, by rw [List.length_append]; exact own_move hown (fun k hk => Below.heap_setCell w1 ⟨g, 1, none⟩ _ k (fun q => hne (by rw [hk, q]))), hne⟩
  have HKP : Aside0 (Keeps W (w1.setCell ⟨g, 1, none⟩ (.slice A2 (xs.length + ys.length) c2))) := ⟨fun k cs t fr q0 q1 q2 => by
    have hkg : k ≠ g := by
      intro q
      subst q
      have hz := HK.out
      rw [q0] at hz
      injection hz with hz
      injection hz with _ hz
      exact q2 hz
    have hkr : (Value.slice A1 xs.length c1).ownBlock ≠ some k := fun q => by
      obtain ⟨cells, hq⟩ := own_typed HO.out k q
      rw [q0] at hq
      injection hq with hq
      injection hq with _ hq
      exact q1 hq
    rw [Below.heap_setCell w1 ⟨g, 1, none⟩ _ k hkg, hgrow.block k (blk_lt q0) (fun q => hkr q.symm)]
    exact q0⟩
  clear hk1 hown hgrow e1 hne
  go_wp2
  go_ret
  exact ⟨rfl, HWr.out, HB1.out, HKP.out⟩
/-- a row of bytes in memory -/
def BytesAt (W : World) (ad : Addr) (xs : List Int) : Prop := ∀ i, i < xs.length → W.cell? (ad.add i) = some (.int .u8 (xs.getD i 0))
set_option maxHeartbeats 4000000 in
set_option maxRecDepth 100000 in
theorem count_calls (ad : Addr) (c b2 d : Nat) (xs : List Int) (W : World) (hx : BytesAt W ad xs) (h2 : W.cell? ⟨b2, 0, none⟩ = some (.int .u8 0)) :
    Calls Tryz.prog 211 #[.slice (some ad) xs.length c, .slice (some ⟨b2, 0, none⟩) 1 d] W fun e w' => e = .returned (.int .i64 (countByte (Lib.bytesOf xs) (0 : Int).toNat.toUInt8)) ∧ w' = W := by
  have hrun : (callFunc 233 #[.slice (some ad) xs.length c, .int .u8 0]).run Tryz.prog W = .ok (.value (.int .i64 (countByte (Lib.bytesOf xs) (0 : Int).toNat.toUInt8))) W := by
    rw [run_callFunc_extern Tryz.func233 (by kernel_rfl) (by kernel_rfl) (by kernel_rfl) (e := Extern.BytealgCount.count) (by kernel_rfl), Lib.run_countAt W ad xs.length c xs rfl hx 0]
    rfl
  have mixed : Tryz.prog.follows Departure.mixedOrders = true := by kernel_rfl
  generalize (countByte (Lib.bytesOf xs) (0 : Int).toNat.toUInt8) = n at hrun ⊢
  clear hx
  go_enter Tryz.func211, Tryz.ntmps211
  go_wp2_with (simp only [hrun])
  go_ret
  exact ⟨rfl, rfl⟩
theorem at_cells {W : World} {ad : Addr} {xs : List Int} (h : BytesAt W ad xs) : ∀ j u, (nums .u8 xs)[j]? = some u → W.cell? (ad.add j) = some u := fun j u hj => by
  have hlt : j < xs.length := by
    have := (List.getElem?_eq_some_iff.1 hj).1
    simpa [nums] using this
  rw [h j hlt]
  unfold nums at hj
  rw [List.getElem?_map, List.getElem?_eq_getElem hlt] at hj
  rw [← hj, List.getD_eq_getElem?_getD, List.getElem?_eq_getElem hlt]
  rfl
set_option maxHeartbeats 4000000 in
set_option maxRecDepth 100000 in
theorem replace_calls (ad : Addr) (c b2 d b3 : Nat) (xs : List Int) (W : World) (hx : BytesAt W ad xs) (h2 : W.cell? ⟨b2, 0, none⟩ = some (.int .u8 0)) (hz : countByte (Lib.bytesOf xs) (0 : Int).toNat.toUInt8 = 0) (hfit : xs.length ≤ 1048576) :
    Calls Tryz.prog 182 #[.slice (some ad) xs.length c, .slice (some ⟨b2, 0, none⟩) 1 d, .slice (some ⟨b3, 0, none⟩) 2 2, .int .i64 (-1)] W fun e w' => ∃ v', e = .returned v' ∧ w'.ownsRow W.heap.size 5 1 v' xs.length (nums .u8 xs) ∧ Below W.heap.size W w' := by
  have mixed : Tryz.prog.follows Departure.mixedOrders = true := by kernel_rfl
  obtain ⟨i0, hi0, hz0, hzs, hzb⟩ := info_parts i5
  have CNT := Aside0.mk (count_calls ad c b2 d xs W hx h2)
  rw [hz] at CNT
  have HC := Aside0.mk (at_cells hx)
  clear hx hz
  go_enter Tryz.func182, Tryz.ntmps182
  go_wp2_with (first
    | (go_at_call 211; refine CNT.out.mono ?_; rintro e w1 ⟨rfl, hw⟩; replace hw := hw.symm; subst hw)
    | (at_builtin; refine wpList_append_own _ rfl _ _ 62 rfl W.heap.size 5 i0 (.int .u8 0) 1 1 u62 hi0 hz0 hzs hzb rfl (by decide) _ _ _ rfl (own_nil _ _ _ _) ad xs.length c (nums .u8 xs) rfl ?qc1 ?qc2 ?qc3 ?qc4 ?qc5 ?qc6 ?_))
  case qc1 => rw [nums_len]; omega
  case qc2 => exact HC.out
  case qc3 => exact nums_one xs
  case qc4 => unfold maxLen; omega
  case qc5 => omega
  case qc6 => omega
  intro v1 w1 hown hgrow _
  go_wp2
  go_ret
  exact ⟨v1, rfl, by simpa using hown, (Below.refl _ W).grown hgrow (Nat.le_refl _) (by intro k hk; simp [Value.ownBlock] at hk)⟩
end Go.Proofs.YtmeopdjdjmjngaaGreatDoor.Cod
