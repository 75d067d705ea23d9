/- slices.Insert, Delete and Clone at the definitions, on rows of the call's own: one contract each. -/
import Derived.Test.YtmeopdjdjmjngaaGreatDoorDel11
set_option linter.unusedVariables false
set_option linter.unusedSimpArgs false
namespace Go.Proofs.YtmeopdjdjmjngaaGreatDoor.Ins
open Go.RowKit Go.Lib Go.Proofs.YtmeopdjdjmjngaaGreatDoorW.PrintWords
theorem zsz (q : Nat) : (Builtin.zeroCells zD.cells q).size = q * 2 := by simp [Builtin.zeroCells, zD, Value.cells]
theorem own_alloc {W : World} {base : Nat} {ROW : Array Value} {n G : Nat} {ys : List Value} (hb : base ≤ W.heap.size) (hn : n ≤ G) (hG : G ≤ maxLen) (hs : ROW.size = G * 2) (ht : ROW.toList.take (n * 2) = ys) :
    (W.alloc (.cells ROW 24)).ownsRow base 24 2 (.slice (some ⟨W.heap.size, 0, none⟩) n G) n ys := by
  refine ⟨?_, .inr ⟨W.heap.size, G, ROW, rfl, hb, heap_alloc_new W _, hn, hG, hs, ht⟩⟩
  rw [← ht, List.length_take, Array.length_toList, hs]
  omega
theorem below_cells {B b : Nat} {a : World} (hB : B ≤ b) : ∀ (vs : List Value) (o : Nat) (w : World), Below B a w → Below B a (w.setCells b o vs)
  | [], _, _, h => h
  | v :: r, o, w, h => below_cells hB r (o + 1) _ (h.setCell (by exact hB) v)
theorem put_row {w : World} {g o : Nat} {e : TypeId} {cur : Array Value} {vs L R : List Value} (h : w.heap[g]? = some (.cells cur e (0, 0))) (hc : cur.toList = L ++ R) (hL : L.length = o) (hl : vs.length ≤ R.length) :
    ∃ cur', (w.setCells g o vs).heap[g]? = some (.cells cur' e (0, 0)) ∧ cur'.size = cur.size ∧ cur'.toList = L ++ (vs ++ R.drop vs.length) := by
  have hsz : cur.size = L.length + R.length := by rw [← Array.length_toList, hc, List.length_append]
  obtain ⟨cur', h1, h2, h3⟩ := setCells_row vs o w cur h (by omega)
  refine ⟨cur', h1, h2, ?_⟩
  rw [h3, hc, List.append_assoc, List.take_left' hL]
  congr 1
  rw [List.drop_append, List.drop_of_length_le (by omega), List.nil_append, hL, Nat.add_sub_cancel_left]
theorem take_parts {xs : List Value} {i : Nat} (n : Nat) (h : xs.length = n) (hi : i ≤ n) : xs = xs.take i ++ xs.drop i ∧ (xs.take i).length = i := ⟨(List.take_append_drop i xs).symm, by rw [List.length_take]; omega⟩
/-- slices.Insert of one definition: the row with it, a row of the call's own. -/
theorem insert_own {w : World} {base n i vb : Nat} {v : Value} {xs vs : List Value} {tV : TypeId} (ho : w.ownsRow base 24 2 v n xs) (hx1 : ∀ u ∈ xs, u.oneCell' = true) (hi : i ≤ n) (hvl : vs.length = 2) (hv : w.heap[vb]? = some (.cells vs.toArray tV (0, 0)))
    (h1v : ∀ u ∈ vs, u.oneCell' = true) (hvb : v.ownBlock ≠ some vb) (hbase : base ≤ w.heap.size) (hbig : (n + 1) * 40 ≤ 140737488355328) :
    Calls Tryz.prog 63 #[v, .int .i64 i, .slice (some ⟨vb, 0, none⟩) 1 1] w fun e w' => ∃ v', e = .returned v' ∧ w'.ownsRow base 24 2 v' (n + 1) (xs.take (i * 2) ++ vs ++ xs.drop (i * 2)) ∧ Below base w w' := by
  obtain ⟨hlen, ho⟩ := ho
  have hvs : ∀ j u, vs[j]? = some u → w.cell? ⟨vb, j, none⟩ = some u := fun j u hj => by
    simp [World.cell?, hv, hj]
  have hgc : ∀ c, n + 1 ≤ grownCap w (n + 1) c 24 ∧ grownCap w (n + 1) c 24 ≤ maxLen := fun c => ⟨grownCap_ge w _ _ _, grownCap_le_maxLen w (n + 1) c _ (by unfold maxLen; omega)⟩
  have hEnd : ∀ (A : Option Addr) (c : Nat), i = n → n ≤ c → c < n + 1 → (A = none → n = 0) → (∀ a, A = some a → ∀ j u, xs[j]? = some u → w.cell? (a.add j) = some u) →
      Calls Tryz.prog 63 #[.slice A n c, .int .i64 i, .slice (some ⟨vb, 0, none⟩) 1 1] w fun e w' => ∃ v', e = .returned v' ∧ w'.ownsRow base 24 2 v' (n + 1) (xs.take (i * 2) ++ vs ++ xs.drop (i * 2)) ∧ Below base w w' := by
    intro A c hin hnc hroom hnil hcs
    subst hin
    refine (end_grow A i c vb 1 1 xs vs w (by omega) hnc hroom hbig hlen (by omega) hnil hcs hvs h1v).mono ?_
    rintro e w' ⟨rfl, rfl⟩
    obtain ⟨g1, g2⟩ := hgc c
    refine ⟨_, rfl, own_alloc (W := w.drew) hbase g1 g2 ?_ ?_, ((Below.refl base w).drew).alloc hbase _⟩
    · rw [Array.size_append, zsz, List.size_toArray, List.length_append, hlen, hvl]
      omega
    · rw [Array.toList_append, List.take_left' (by rw [List.length_append, hlen, hvl]; omega), List.take_of_length_le (by omega), List.drop_of_length_le (by omega), List.append_nil]
  rcases ho with ⟨rfl, rfl⟩ | ⟨g, cap, cur, rfl, hb, hh, hnc, hcm, hcs, htk⟩
  · exact hEnd none 0 (by omega) (by omega) (by omega) (fun _ => rfl) (fun a ha => by cases ha)
  · have hne : vb ≠ g := fun q => hvb (by rw [q]; rfl)
    have hxc : ∀ j u, xs[j]? = some u → w.cell? ⟨g, j, none⟩ = some u := fun j u hj => by
      rw [← htk, List.getElem?_take] at hj
      split at hj
      · simp at hj
        simp [World.cell?, hh, hj]
      · cases hj
    have hsp : ∀ j, j < cap * 2 → (w.cell? ⟨g, j, none⟩).isSome = true := fun j hj => by
      simp [World.cell?, hh, Array.getElem?_eq_getElem (show j < cur.size by omega)]
    have hfz : ∀ j, w.frozen? ⟨g, j, none⟩ = false := fun j => by simp [World.frozen?, hh]
    have hfv : ∀ j, w.frozen? ⟨vb, j, none⟩ = false := fun j => by simp [World.frozen?, hv]
    have hcur : cur.toList = xs ++ cur.toList.drop (n * 2) := by rw [← htk]; exact (List.take_append_drop _ _).symm
    have hcl : cur.toList.length = cap * 2 := by rw [Array.length_toList, hcs]
    obtain ⟨p1, p2⟩ := take_parts (i := i * 2) (n * 2) hlen (by omega)
    by_cases hin : i = n
    · by_cases hroom : n + 1 ≤ cap
      · subst hin
        refine (end_room g i cap vb 1 1 vs w (by omega) hroom (by unfold maxLen at hcm; omega) (by omega) (fun j hj => hsp _ (by omega)) (fun j hj => hfz _) hvs h1v).mono ?_
        rintro e w' ⟨rfl, rfl⟩
        obtain ⟨cur', h1, h2, h3⟩ := put_row (vs := vs) hh hcur hlen (by rw [List.length_drop, hcl]; omega)
        refine ⟨_, rfl, ⟨by simp [hlen, hvl]; omega, .inr ⟨g, cap, cur', rfl, hb, h1, hroom, hcm, by rw [h2, hcs], ?_⟩⟩, below_cells hb _ _ _ (Below.refl _ _)⟩
        rw [h3, ← List.append_assoc, List.take_left' (by rw [List.length_append, hlen, hvl]; omega), List.take_of_length_le (show xs.length ≤ i * 2 by omega), List.drop_of_length_le (by omega), List.append_nil]
      · exact hEnd _ cap hin hnc (by omega) (fun q => by cases q) (fun a ha j u hj => by
          obtain rfl := Option.some.inj ha
          rw [Addr.add_lit, Nat.zero_add]; exact hxc j u hj)
    · have hlt : i < n := by omega
      have hdl : (xs.drop (i * 2)).length = (n - i) * 2 := by rw [List.length_drop, hlen]; omega
      by_cases hroom : n + 1 ≤ cap
      · refine (shift g n cap i vb 1 1 xs vs w hlt (by omega) hroom (by unfold maxLen at hcm; omega) hne hlen (by omega) hxc (fun j hj => hsp _ (by omega)) (fun j hj => hfz _) hvs hx1 h1v tV 24 2 (cap * 2) (by simp [World.shape?, hv, hvl]) (by simp [World.shape?, hh, hcs]) (by omega) (hfv _) (hfv _)).mono ?_
        rintro e w' ⟨rfl, rfl⟩
        have hh' : w.drew.heap[g]? = some (.cells cur 24 (0, 0)) := hh
        have hl1 : (cur.toList.take ((i + 1) * 2)).length = (i + 1) * 2 := by rw [List.length_take, hcl]; omega
        obtain ⟨c1, a1, a2, a3⟩ := put_row (vs := xs.drop (i * 2)) hh' (List.take_append_drop ((i + 1) * 2) cur.toList).symm hl1 (by rw [hdl, List.length_drop, hcl]; omega)
        have e1 : cur.toList.take ((i + 1) * 2) = xs.take (i * 2) ++ (cur.toList.drop (i * 2)).take 2 := by
          rw [show (i + 1) * 2 = i * 2 + 2 by omega, List.take_add]
          congr 1
          rw [hcur, List.take_append_of_le_length (by omega)]
        rw [e1, List.append_assoc] at a3
        have l2 : ((cur.toList.drop (i * 2)).take 2).length = 2 := by rw [List.length_take, List.length_drop, hcl]; omega
        obtain ⟨c2, b1, b2, b3⟩ := put_row (vs := vs) a1 a3 p2 (by rw [List.length_append, l2]; omega)
        refine ⟨_, rfl, ⟨by simp [hvl, hlen]; omega, .inr ⟨g, cap, c2, rfl, hb, b1, hroom, hcm, by rw [b2, a2, hcs], ?_⟩⟩, below_cells hb _ _ _ (below_cells hb _ _ _ (Below.refl _ _).drew)⟩
        rw [b3, List.drop_append, l2, hvl, Nat.sub_self, List.drop_zero, List.drop_of_length_le (by omega), List.nil_append, ← List.append_assoc, ← List.append_assoc]
        exact List.take_left' (by rw [List.length_append, List.length_append, p2, hvl, hdl]; omega)
      · refine (grow g n cap i vb 1 1 xs vs w hlt (by omega) hnc (by omega) hbig hlen (by omega) hxc hvs hx1 h1v).mono ?_
        rintro e w' ⟨rfl, rfl⟩
        obtain ⟨g1, g2⟩ := hgc cap
        generalize grownCap w (n + 1) cap 24 = G at g1 g2 ⊢
        obtain ⟨ROW, hROW⟩ : ∃ ROW : Array Value, ROW = (xs.take (i * 2)).toArray ++ Builtin.zeroCells zD.cells (n + 1 - i) ++ Builtin.zeroCells zD.cells (G - (n + 1)) := ⟨_, rfl⟩
        rw [← hROW]
        have hRs : ROW.size = G * 2 := by
          rw [hROW, Array.size_append, Array.size_append, zsz, zsz, List.size_toArray, p2]; omega
        have hRl : ROW.toList = xs.take (i * 2) ++ ((Builtin.zeroCells zD.cells (n + 1 - i)).toList ++ (Builtin.zeroCells zD.cells (G - (n + 1))).toList) := by
          rw [hROW, Array.toList_append, Array.toList_append, List.append_assoc]
        have hz1 : (Builtin.zeroCells zD.cells (n + 1 - i)).toList.length = (n + 1 - i) * 2 := by rw [Array.length_toList, zsz]
        have h0 : ((w.alloc (.cells ROW 24)).drew).heap[w.heap.size]? = some (.cells ROW 24 (0, 0)) := heap_alloc_new w _
        obtain ⟨c1, a1, a2, a3⟩ := put_row (vs := vs) h0 hRl p2 (by rw [List.length_append, hz1]; omega)
        rw [← List.append_assoc] at a3
        have a1' : (((w.alloc (.cells ROW 24)).drew.setCells w.heap.size (i * 2) vs).drew).heap[w.heap.size]? = some (.cells c1 24 (0, 0)) := a1
        have l1 : (xs.take (i * 2) ++ vs).length = (i + 1) * 2 := by rw [List.length_append, p2, hvl]; omega
        obtain ⟨c2, b1, b2, b3⟩ := put_row (vs := xs.drop (i * 2)) a1' a3 l1 (by rw [hdl, List.length_drop, List.length_append, hz1, hvl]; omega)
        refine ⟨_, rfl, ⟨by simp [hvl, hlen]; omega, .inr ⟨w.heap.size, G, c2, rfl, hbase, b1, g1, g2, by rw [b2, a2, hRs], ?_⟩⟩, below_cells hbase _ _ _ (below_cells hbase _ _ _ ((Below.refl _ _).alloc hbase _).drew).drew⟩
        rw [b3, ← List.append_assoc]
        exact List.take_left' (by rw [List.length_append, l1, hdl]; omega)
/-- slices.Delete of one definition of a row of the call's own. -/
theorem delete_own {w : World} {base n i : Nat} {v : Value} {xs : List Value} (ho : w.ownsRow base 24 2 v n xs) (hx1 : ∀ u ∈ xs, u.oneCell' = true) (hi : i < n) :
    Calls Tryz.prog 65 #[v, .int .i64 i, .int .i64 ((i + 1 : Nat) : Int)] w fun e w' => ∃ v', e = .returned v' ∧ w'.ownsRow base 24 2 v' (n - 1) (xs.take (i * 2) ++ xs.drop ((i + 1) * 2)) ∧ Below base w w' := by
  obtain ⟨hlen, ho⟩ := ho
  rcases ho with ⟨rfl, rfl⟩ | ⟨g, cap, cur, rfl, hb, hh, hnc, hcm, hcs, htk⟩
  · omega
  · have hxc : ∀ j u, xs[j]? = some u → w.cell? ⟨g, j, none⟩ = some u := fun j u hj => by
      rw [← htk, List.getElem?_take] at hj
      split at hj
      · simp at hj
        simp [World.cell?, hh, hj]
      · cases hj
    have hfz : ∀ j, w.frozen? ⟨g, j, none⟩ = false := fun j => by simp [World.frozen?, hh]
    have hcur : cur.toList = xs ++ cur.toList.drop (n * 2) := by rw [← htk]; exact (List.take_append_drop _ _).symm
    have hcl : cur.toList.length = cap * 2 := by rw [Array.length_toList, hcs]
    obtain ⟨p1, p2⟩ := take_parts (i := i * 2) (n * 2) hlen (by omega)
    have hdl : (xs.drop ((i + 1) * 2)).length = (n - 1 - i) * 2 := by rw [List.length_drop, hlen]; omega
    refine (delete g n cap i xs w hi hnc (by unfold maxLen at hcm; omega) hlen hxc (fun j _ => hfz j) hx1).mono ?_
    rintro e w' ⟨rfl, rfl⟩
    have hh' : w.drew.heap[g]? = some (.cells cur 24 (0, 0)) := hh
    have e0 : cur.toList = xs.take (i * 2) ++ (xs.drop (i * 2) ++ cur.toList.drop (n * 2)) := by rw [← List.append_assoc, ← p1]; exact hcur
    obtain ⟨c1, a1, a2, a3⟩ := put_row (vs := xs.drop ((i + 1) * 2)) hh' e0 p2 (by rw [hdl, List.length_append, List.length_drop, List.length_drop, hlen, hcl]; omega)
    rw [← List.append_assoc] at a3
    have l1 : (xs.take (i * 2) ++ xs.drop ((i + 1) * 2)).length = (n - 1) * 2 := by rw [List.length_append, p2, hdl]; omega
    have hz2 : (Builtin.zeroCells zD.cells 1).toList.length = 2 := by rw [Array.length_toList, zsz]
    obtain ⟨c2, b1, b2, b3⟩ := put_row (vs := (Builtin.zeroCells zD.cells 1).toList) a1 a3 l1 (by rw [List.length_drop, List.length_append, List.length_drop, List.length_drop, hcl, hlen, hdl, hz2]; omega)
    refine ⟨_, rfl, ⟨l1, .inr ⟨g, cap, c2, rfl, hb, b1, by omega, hcm, by rw [b2, a2, hcs], ?_⟩⟩, below_cells hb _ _ _ (below_cells hb _ _ _ (Below.refl _ _).drew)⟩
    rw [b3]
    exact List.take_left' l1
end Go.Proofs.YtmeopdjdjmjngaaGreatDoor.Ins
