/- schema.Lookup and Drop: one of a directory's rows, and the directory without it. -/
import Derived.Test.YtmeopdjdjmjngaaGreatDoorDirA11
set_option linter.unusedVariables false
set_option linter.unusedSimpArgs false
namespace Go.Proofs.YtmeopdjdjmjngaaGreatDoor.J
open Go.RowKit Go.Lib Go.Proofs.YtmeopdjdjmjngaaGreatDoorW.PrintWords Go.Proofs.YtmeopdjdjmjngaaGreatDoorW.PrintLast Go.Proofs.YtmeopdjdjmjngaaGreatDoorW.PrintMore Go.Proofs.YtmeopdjdjmjngaaGreatDoor.Ins
theorem box_facts {W : World} {g : Nat} {x y : Value} {t : TypeId} (h : W.heap[g]? = some (.cells #[x, y] t (0, 0))) : W.cell? ⟨g, 0, none⟩ = some x ∧ W.cell? ⟨g, 1, none⟩ = some y ∧ ∀ j, W.frozen? ⟨g, j, none⟩ = false :=
  ⟨by simp [World.cell?, h], by simp [World.cell?, h], fun j => by simp [World.frozen?, h]⟩
theorem box_final {w w1 : World} {x0 y0 : Value} {t : TypeId} (hb : Below w.heap.size w w1) (hk : w1.heap[w.heap.size]? = some (.cells #[x0, y0] t (0, 0))) (x y : Value) :
    ((w1.setCell ⟨w.heap.size, 0, none⟩ x).setCell ⟨w.heap.size, 1, none⟩ y).heap[w.heap.size]? = some (.cells #[x, y] t (0, 0)) ∧ Below w.heap.size w ((w1.setCell ⟨w.heap.size, 0, none⟩ x).setCell ⟨w.heap.size, 1, none⟩ y) :=
  ⟨blk_set (blk_set hk 0 x) 1 y, (hb.setCell (Nat.le_refl _) x).setCell (Nat.le_refl _) y⟩
theorem ixFrom_lt (q : ByteArray → Bool) (z : ByteArray) : ∀ (l : List ByteArray) (i : Nat), Lib.idxByFrom (fun _ s => q s) z l i = -1 ∨ ((i : Int) ≤ Lib.idxByFrom (fun _ s => q s) z l i ∧ Lib.idxByFrom (fun _ s => q s) z l i < (i : Int) + l.length)
  | [], _ => .inl rfl
  | y :: r, i => by
    rw [Lib.idxByFrom]
    by_cases c : q y = true
    · rw [if_pos c]; exact .inr ⟨Int.le_refl _, by rw [List.length_cons]; omega⟩
    · rw [if_neg c]
      rcases ixFrom_lt q z r (i + 1) with h | ⟨h1, h2⟩
      · exact .inl h
      · exact .inr ⟨by omega, by rw [List.length_cons]; omega⟩
theorem ixN_lt (q : ByteArray → Bool) (l : List Df) : ixN q l = -1 ∨ (0 ≤ ixN q l ∧ ixN q l < l.length) := by
  have := ixFrom_lt q ByteArray.empty (l.map (·.f0)) 0
  rw [List.length_map] at this
  unfold ixN
  rcases this with h | ⟨h1, h2⟩
  · exact .inl h
  · exact .inr ⟨by omega, by omega⟩
set_option maxHeartbeats 8000000 in
set_option maxRecDepth 100000 in
theorem lookup_calls (A : Option Addr) (c : Nat) (l : List Df) (name : ByteArray) (w : World) (hr : Kd.C k24 w A l.length l) (hlc : l.length ≤ c) (hl : l.length ≤ 9223372036854775807) :
    Calls Tryz.prog 33 #[.slice A l.length c, .string name] w fun e w' => Below w.heap.size w w' ∧
      ((atI l name < 0 ∧ e = .returned (.tuple #[.agg #[.string ⟨#[]⟩, .slice none 0 0], .bool false])) ∨
       (0 ≤ atI l name ∧ ∃ A1 c1, e = .returned (.tuple #[.agg #[.string (rd_T24 l (atI l name)).f0, .slice A1 (rd_T24 l (atI l name)).f1.length c1], .bool true]) ∧ (rd_T24 l (atI l name)).f1.length ≤ c1 ∧ Kd.C k36 w A1 (rd_T24 l (atI l name)).f1.length (rd_T24 l (atI l name)).f1)) := by
  have hW0 : Below w.heap.size w (w.alloc (.cells #[.string ⟨#[]⟩, .slice none 0 0] 24)) := below_alloc (Below.refl _ _) _
  have hcon := Aside0.mk (at_calls A c l name (w.alloc (.cells #[.string ⟨#[]⟩, .slice none 0 0] 24)) (Kd.C_below hr hW0) hl)
  have HW0 := Aside0.mk hW0
  clear hW0
  have hu24 := Tryz.underlying24
  have hlt := ixN_lt (fun s => s.toList == name.toList) l
  change atI l name = -1 ∨ (0 ≤ atI l name ∧ atI l name < l.length) at hlt
  have HR := Aside0.mk hr
  clear hr
  generalize atI l name = i at hlt hcon ⊢
  by_cases hi : i < 0
  · have em : i = -1 := by omega
    subst em
    clear hlt hi
    go_enter Tryz.func33, Tryz.ntmps33
    go_wp2_with (go_at_call 60; refine hcon.out.mono ?_; rintro e w1 ⟨rfl, hb⟩; have HB := Aside0.mk (HW0.out.trans (hb.mono HW0.out.size)); have BK := Aside0.mk ((hb.block w.heap.size (by simp)).trans (heap_alloc_new w _)); obtain ⟨b0, b1, bf⟩ := box_facts BK.out; clear hb)
    obtain ⟨k1, k2⟩ := box_final HB.out BK.out (.string ⟨#[]⟩) (.slice none 0 0)
    exact bodyPost_ret (results_ct rfl _ _ w.heap.size 24 #[.string ⟨#[]⟩, .slice none 0 0] (0, 0) _ rfl k1 hu24 rfl (by kernel_rfl)) rfl ⟨k2, .inl ⟨by decide, rfl⟩⟩
  · have h0 : 0 ≤ i := by omega
    have h1 : i < l.length := by omega
    have h1c : (i : Int) ≤ c := by omega
    obtain ⟨i, rfl⟩ : ∃ n : Nat, i = n := ⟨i.toNat, by omega⟩
    obtain ⟨ad, A1, c1, rfl, g0, g1, gl, gC⟩ := at_T24 HR.out i h0 h1
    rw [show ((i : Int).toNat) = i from rfl] at g0 g1
    have G0 := Aside0.mk g0
    have G1 := Aside0.mk g1
    have GL := Aside0.mk gl
    have GC := Aside0.mk gC
    clear gC gl g0 g1 hlt
    obtain ⟨S, hS⟩ : ∃ S, S = rd_T24 l i := ⟨_, rfl⟩
    rw [← hS] at G0 G1 GL GC ⊢
    clear hS
    have hi' : i < l.length := by omega
    go_enter Tryz.func33, Tryz.ntmps33
    go_wp2_with (go_at_call 60; refine hcon.out.mono ?_; rintro e w1 ⟨rfl, hb⟩; have HB := Aside0.mk (HW0.out.trans (hb.mono HW0.out.size)); have BK := Aside0.mk ((hb.block w.heap.size (by simp)).trans (heap_alloc_new w _)); obtain ⟨b0, b1, bf⟩ := box_facts BK.out; have g0 := pw_cell_below HB.out G0.out; have g1 := pw_cell_below HB.out G1.out; clear hb)
    obtain ⟨k1, k2⟩ := box_final HB.out BK.out (.string S.f0) (.slice A1 S.f1.length c1)
    exact bodyPost_ret (results_ct rfl _ _ w.heap.size 24 #[.string S.f0, .slice A1 S.f1.length c1] (0, 0) _ rfl k1 hu24 rfl (by kernel_rfl)) rfl ⟨k2, .inr ⟨h0, A1, c1, rfl, GL.out, GC.out⟩⟩
set_option maxHeartbeats 8000000 in
set_option maxRecDepth 100000 in
theorem drop_calls {R : Df → List Value → Prop} (A : Option Addr) (c : Nat) (l : List Df) (inner : List Value) (name : ByteArray) (w : World) (hr : RowIs R w A l inner) (hK : ∀ p c, R p c → k24.K w p c) (hlc : l.length ≤ c) (hbig : l.length * 40 ≤ 140737488355328) (h0 : 0 ≤ atI l name) :
    Calls Tryz.prog 34 #[.slice A l.length c, .string name] w fun e w' => Below w.heap.size w w' ∧ ∃ A' c' inner', e = .returned (.tuple #[.slice A' (l.eraseIdx (atI l name).toNat).length c', .int .i64 0]) ∧ (l.eraseIdx (atI l name).toNat).length ≤ c' ∧ RowIs R w' A' (l.eraseIdx (atI l name).toNat) inner' := by
  have hcon := Aside0.mk (at_calls A c l name w (hr.toC hK) hr.2.1)
  have hlt := ixN_lt (fun s => s.toList == name.toList) l
  change atI l name = -1 ∨ (0 ≤ atI l name ∧ atI l name < l.length) at hlt
  generalize atI l name = i at hlt hcon h0 ⊢
  obtain ⟨i, rfl⟩ : ∃ n : Nat, i = n := ⟨i.toNat, by omega⟩
  have hi : i < l.length := by omega
  rw [show ((i : Int).toNat) = i from rfl]
  have hone := hr.one hK
  have HCL := Aside0.mk (fun (W : World) (hb : Below w.heap.size w W) => clone_own A c l.length inner W hr.1.1 (hr.below hb).2.2 hone hbig)
  have hw1 : wrap64 ((i : Int) + 1) = ((i + 1 : Nat) : Int) := by unfold wrap64; omega
  have hw2 : IntKind.i64.wrap ((i : Int) + 1) = ((i + 1 : Nat) : Int) := by rw [IntKind.wrap_i64]; omega
  have HDEL := Aside0.mk (fun (W : World) (b : Nat) (v : Value) (ho : W.ownsRow b 24 2 v l.length inner) => delete_own ho hone hi)
  have HR := Aside0.mk hr
  clear hone hlt hr hK
  have hi0 : ¬ ((i : Int) < 0) := by omega
  go_enter Tryz.func34, Tryz.ntmps34
  go_wp2_with (first
    | (go_at_call 60; refine hcon.out.mono ?_; rintro e w1 ⟨rfl, hb⟩; have HB := Aside0.mk hb; clear hb)
    | (go_at_call 64; refine (HCL.out _ HB.out).mono ?_; rintro e w2 ⟨v2, rfl, ho2, hb2⟩; have HO2 := Aside0.mk ho2; have HB2 := Aside0.mk hb2; clear hb2 ho2)
    | (go_at_call 65; refine (HDEL.out _ _ _ HO2.out).mono ?_; rintro e w3 ⟨v3, rfl, ho3, hb3⟩; have HO3 := Aside0.mk ho3; have HB3 := Aside0.mk hb3; clear hb3 ho3))
  have hlen : (l.eraseIdx i).length = l.length - 1 := List.length_eraseIdx_of_lt hi
  have hrep : Reps R 2 (l.eraseIdx i) (inner.take (i * 2) ++ inner.drop ((i + 1) * 2)) := by
    rw [List.eraseIdx_eq_take_drop_succ]
    exact Reps.append_ (Kd.reps_take (m := i) HR.out.1 (by omega)) (Kd.reps_drop (m := i + 1) HR.out.1)
  have ho := HO3.out
  rw [← hlen] at ho
  obtain ⟨A', c', rfl, hc', hrow⟩ := RowIs.ofOwn ho hrep
  go_ret2
  exact ⟨HB.out.trans ((HB2.out.trans HB3.out).mono HB.out.size), A', c', _, rfl, hc', hrow⟩
end Go.Proofs.YtmeopdjdjmjngaaGreatDoor.J
