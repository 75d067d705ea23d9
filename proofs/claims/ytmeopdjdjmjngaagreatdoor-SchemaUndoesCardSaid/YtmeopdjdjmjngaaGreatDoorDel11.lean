/- slices.Delete at the definitions (two cells each), over their cells: walked after the library's own Shelf.SlicesE.Delete (one cell each). -/
import Derived.Test.YtmeopdjdjmjngaaGreatDoorIns11
import Derived.Lib.SliceRun
import Derived.Deep.RegionLaw
set_option linter.unusedVariables false
set_option linter.unusedSimpArgs false
namespace Go.Proofs.YtmeopdjdjmjngaaGreatDoor.Ins
open Go.RowKit Go.Lib
theorem run_clear_cellsN {P : Program} (w : World) (t e ty : TypeId) (z : Value) (ht : P.underlying t = some (.slice e)) (hv : ∀ w, (zeroValue e).run P w = .ok z w) (b o n c : Nat) (hn : 0 < n)
    (h1 : ∀ v ∈ (Builtin.zeroCells z.cells n).toList, v.oneCell' = true)
    (hc : ∀ j, j < (Builtin.zeroCells z.cells n).toList.length → (w.cell? ⟨b, o + j, none⟩).isSome = true) (hf : ∀ j, j < (Builtin.zeroCells z.cells n).toList.length → w.frozen? ⟨b, o + j, none⟩ = false) :
    (Builtin.clear_ #[t] ty #[.slice (some ⟨b, o, none⟩) n c]).run P w = .ok (.tuple #[]) (w.setCells b o (Builtin.zeroCells z.cells n).toList) := by
  have hst := run_storeCells_cells (P := P) b o (Builtin.zeroCells z.cells n).toList 0 w (by simpa using hc) (by simpa using hf) h1
  simp only [Nat.add_zero] at hst
  obtain ⟨m, rfl⟩ : ∃ m, n = m + 1 := ⟨n - 1, by omega⟩
  simp [Builtin.clear_, run_underlying ht, hv, hst]
theorem zeroD (w : World) : (zeroValue 24).run Tryz.prog w = .ok zD w := Tryz.zeroValue24 w
set_option maxHeartbeats 4000000 in
set_option maxRecDepth 1000000 in
theorem delete (b n c i : Nat) (cs : List Value) (w : World) (hi : i < n) (hnc : n ≤ c) (hc63 : c ≤ 9223372036854775807)
    (hcl : cs.length = n * 2) (hcs : ∀ j v, cs[j]? = some v → w.cell? ⟨b, j, none⟩ = some v) (hfz : ∀ j, j < n * 2 → w.frozen? ⟨b, j, none⟩ = false) (h1c : ∀ v ∈ cs, v.oneCell' = true) :
    Calls Tryz.prog 65 #[.slice (some ⟨b, 0, none⟩) n c, .int .i64 i, .int .i64 ((i + 1 : Nat) : Int)] w fun e w' =>
      e = .returned (.slice (some ⟨b, 0, none⟩) (n - 1) c) ∧ w' = (w.drew.setCells b (i * 2) (cs.drop ((i + 1) * 2))).setCells b ((n - 1) * 2) (Builtin.zeroCells zD.cells 1).toList := by
  have mixed : Tryz.prog.follows Departure.mixedOrders = true := by kernel_rfl
  obtain ⟨i0, hi0, hz0, hzs, hzb⟩ := info_parts i24
  obtain ⟨j, hj⟩ : ∃ j, j = i + 1 := ⟨_, rfl⟩
  rw [← hj]
  have hlt : i < j := by omega
  have hjn : j ≤ n := by omega
  obtain ⟨news, hnews⟩ : ∃ news, news = cs.drop (j * 2) := ⟨_, rfl⟩
  rw [← hnews]
  have hlen : news.length = (n - j) * 2 := by rw [hnews, List.length_drop, hcl]; omega
  have hsp : ∀ t, t < n * 2 → (w.cell? ⟨b, t, none⟩).isSome = true := fun t ht => by rw [hcs t _ (List.getElem?_eq_getElem (by omega))]; rfl
  obtain ⟨A, hA, hsrc⟩ : ∃ A : Addr, (if c = j then (some (⟨b, 0, none⟩ : Addr) : Option Addr) else some ⟨b, j * 2, none⟩) = some A ∧ Hid (∀ t u, news[t]? = some u → w.drew.cell? (A.add t) = some u) := by
    by_cases h : c = j
    · refine ⟨⟨b, 0, none⟩, by simp [h], fun t u hu => ?_⟩
      have h0 : news.length = 0 := by rw [hlen]; omega
      rw [List.length_eq_zero_iff.1 h0] at hu
      simp at hu
    · refine ⟨⟨b, j * 2, none⟩, by simp [h], fun t u hu => ?_⟩
      rw [hnews, List.getElem?_drop] at hu
      rw [Addr.add_lit]
      exact hcs _ u hu
  have s1 : Hid (news.length = (n - j) * 2) := hlen
  have s2 : Hid (∀ u ∈ news, u.oneCell' = true) := fun u hu => h1c u (by rw [hnews] at hu; exact List.mem_of_mem_drop hu)
  have s3 : Hid (∀ t, t < news.length → (w.drew.cell? ⟨b, 0 + i * 2 + t, none⟩).isSome = true ∧ w.drew.frozen? ⟨b, 0 + i * 2 + t, none⟩ = false) := by
    intro t ht
    rw [hlen] at ht
    rw [Nat.zero_add]
    exact ⟨hsp _ (by omega), hfz _ (by omega)⟩
  obtain ⟨W1, hW1⟩ : ∃ W1, W1 = w.drew.setCells b (0 + i * 2) news := ⟨_, rfl⟩
  have hsp1 : ∀ k, k < n * 2 → (W1.cell? ⟨b, k, none⟩).isSome = true := fun k hk => by
    rw [hW1]
    exact isSome_setCells b news (0 + i * 2) w.drew (fun t ht => by rw [Nat.zero_add]; exact hsp _ (by rw [hlen] at ht; omega)) _ (hsp k hk)
  have hone : n - (n - 1) = 1 := by omega
  have hzl : (Builtin.zeroCells zD.cells 1).toList.length = 2 := by simp [Builtin.zeroCells, zD, Value.cells]
  have hcl2 : ∀ ty, (Builtin.clear_ #[54] ty #[.slice (some ⟨b, (n - 1) * 2, none⟩) (n - (n - 1)) (c - (n - 1))]).run Tryz.prog W1 = .ok (.tuple #[]) (W1.setCells b ((n - 1) * 2) (Builtin.zeroCells zD.cells 1).toList) := fun ty => by
    rw [hone]
    exact run_clear_cellsN W1 54 24 ty zD hu54 zeroD b ((n - 1) * 2) 1 (c - (n - 1)) (by omega)
      (fun v hv => by
        simp [Builtin.zeroCells, zD, Value.cells] at hv
        obtain ⟨a, ha, rfl⟩ := hv
        match a, ha with
        | 0, _ => rfl
        | 1, _ => rfl
        | a + 2, ha => omega)
      (fun t ht => by rw [hzl] at ht; exact hsp1 _ (by omega)) (fun t ht => by rw [hzl] at ht; rw [hW1, World.frozen?_setCells]; exact hfz _ (by omega))
  have hW : Hid (W1 = w.drew.setCells b (0 + i * 2) news) := hW1
  have hic : i ≤ c := by omega
  have hjc : j ≤ c := by omega
  have hnj : (i : Int) ≠ (j : Int) := by omega
  have hfin : i + (n - j) = n - 1 := by omega
  have hF : Hid (W1 = w.drew.setCells b (i * 2) news) := by rw [hW1, Nat.zero_add]; exact rfl
  clear hW1 hsp1 hlen hnews hcs hcl hfz h1c hsp hone hzl hj hi
  go_enter Tryz.func65, Tryz.ntmps65
  go_wp2_with fail
  go_region_law_o (refine step_append_room rfl (.tmp 22) (.tmp 25) 54 rfl 24 i0 2 hu54 hi0 hzs b 0 i c (by simp [Act.eval, Act.put]) A (n - j) (c - j) news (by simp [Act.eval, Act.put]) s1.out hsrc.out s2.out (by omega) s3.out ?_; rw [← hW.out])
  go_wp2
  go_ret
  rw [hF.out]
  rename_i cs' heq'
  rw [show zD.cells = cs' from by rw [heq']; rfl]
  exact ⟨rfl, rfl⟩
end Go.Proofs.YtmeopdjdjmjngaaGreatDoor.Ins
