/- schema.Put: a definition put to a directory. -/
import Derived.Test.YtmeopdjdjmjngaaGreatDoorDirB11
import Derived.Test.YtmeopdjdjmjngaaGreatDoorJ5
set_option linter.unusedVariables false
set_option linter.unusedSimpArgs false
namespace Go.Proofs.YtmeopdjdjmjngaaGreatDoor.J
open Go.RowKit Go.Lib Go.Proofs.YtmeopdjdjmjngaaGreatDoorW.PrintWords Go.Proofs.YtmeopdjdjmjngaaGreatDoorW.PrintLast Go.Proofs.YtmeopdjdjmjngaaGreatDoorW.PrintMore Go.Proofs.YtmeopdjdjmjngaaGreatDoor.Ins
theorem put_lit (nm : ByteArray) (y : Value) (t : TypeId) (B : Nat) (w : World) (hB : w.heap[B]? = some (.cells #[.string nm, y] t (0, 0))) (W : World) (x : ByteArray × Value) (hb : Below w.heap.size w W) :
    Calls Tryz.prog 62 (#[.agg (rawC x).toArray] ++ #[.pointer (some ⟨B, 0, none⟩)]) W fun e w' => e = .returned (.bool (Op.bytesLess nm.toList x.1.toList)) ∧ Below w.heap.size w w' := by
  have hlt : B < w.heap.size := (Array.getElem?_eq_some_iff.1 hB).1
  obtain ⟨hc, hc1, hc2⟩ := box_facts ((hb.block B hlt).trans hB)
  have hBW : B < W.heap.size := Nat.lt_of_lt_of_le hlt hb.size
  have hne : B ≠ W.heap.size := by omega
  have HB := Aside0.mk hb
  have hu24 := Tryz.underlying24
  obtain ⟨s, v⟩ := x
  show Calls Tryz.prog 62 #[.agg #[.string s, v], .pointer (some ⟨B, 0, none⟩)] W fun e w' => e = .returned (.bool (Op.bytesLess nm.toList s.toList)) ∧ Below w.heap.size w w'
  have hgt : ∀ (w : World), (Go.binOp BinOp.gtr 9 (.string s) (.string nm)).run Tryz.prog w = .ok (.bool (Op.bytesLess nm.toList s.toList)) w := fun w => run_gtr_string _ _ _ w
  clear hb hB
  generalize Op.bytesLess nm.toList s.toList = b at hgt ⊢
  go_enter Tryz.func62, Tryz.ntmps62
  go_wp2
  go_ret
  exact ⟨rfl, below_alloc HB.out _⟩
def putReg.T : Bool × List (List Nat × List Nat) := (true, [([], []), ([0], [0]), ([], []), ([], []), ([3], [3]), ([1, 2, 4, 1], [1, 2, 4]), ([5, 5, 0, 1, 2, 3, 4, 5], [5]), ([6, 0, 1, 2, 3, 4, 5, 6], [])])
def putReg.B : List Nat := [0, 1, 0, 0, 8, 31, 63, 127]
theorem putReg.tab : rtab .any (opsOf Tryz.f32 11) = putReg.T := by kernel_rfl
theorem putReg.bits : waitsOk putReg.T.2 putReg.B = true := by kernel_rfl
theorem pack1 {W w4 : World} {n : Nat} {v : Value} {inner : List Value} {o : Obj} (hb : Below W.heap.size W w4) (ho : w4.ownsRow W.heap.size 24 2 v n inner) :
    (w4.alloc o).ownsRow W.heap.size 24 2 v n inner ∧ (w4.alloc o).heap[w4.heap.size]? = some o ∧ v.ownBlock ≠ some w4.heap.size ∧ W.heap.size ≤ (w4.alloc o).heap.size ∧ Below W.heap.size W (w4.alloc o) :=
  ⟨own_move ho (fun k hk => heap_alloc_old w4 o (own_lt ho k hk)), heap_alloc_new w4 o, fun q => absurd (own_lt ho _ q) (Nat.lt_irrefl _), Nat.le_trans hb.size (by simp), hb.alloc hb.size o⟩
theorem pack2 {W w4 : World} {n : Nat} {v : Value} {inner : List Value} {o : Obj} (hb : Below (W.alloc o).heap.size (W.alloc o) w4) (ho : w4.ownsRow (W.alloc o).heap.size 24 2 v n inner) :
    w4.ownsRow (W.alloc o).heap.size 24 2 v n inner ∧ w4.heap[W.heap.size]? = some o ∧ v.ownBlock ≠ some W.heap.size ∧ (W.alloc o).heap.size ≤ w4.heap.size :=
  ⟨ho, (hb.block W.heap.size (by simp)).trans (heap_alloc_new W o), fun q => by have := own_base ho _ q; simp at this; omega, hb.size⟩
theorem keep_cell {w w4 w5 : World} {base j : Nat} {v : Value} (hb5 : Below base w4 w5) (hlt : w.heap.size < base) (hc : w4.cell? ⟨w.heap.size, j, none⟩ = some v) : w5.cell? ⟨w.heap.size, j, none⟩ = some v :=
  (hb5.cell (p := ⟨w.heap.size, j, none⟩) hlt).trans hc
theorem put_fin {R : Df → List Value → Prop} {l : List Df} {inner vs : List Value} {d : Df} (hr : Reps R 2 l inner) (hd : R d vs) (hv : vs.length = 2) {i : Nat} (hi : i ≤ l.length) {w5 : World} {base : Nat} {v5 : Value}
    (ho : w5.ownsRow base 24 2 v5 (l.length + 1) (inner.take (i * 2) ++ vs ++ inner.drop (i * 2))) :
    ∃ A' c', v5 = .slice A' (l.take i ++ [d] ++ l.drop i).length c' ∧ (l.take i ++ [d] ++ l.drop i).length ≤ c' ∧ RowIs R w5 A' (l.take i ++ [d] ++ l.drop i) (inner.take (i * 2) ++ vs ++ inner.drop (i * 2)) := by
  have hlen : (l.take i ++ [d] ++ l.drop i).length = l.length + 1 := by
    simp only [List.length_append, List.length_take, List.length_drop, List.length_singleton]; omega
  have h1 : Reps R 2 [d] vs := by
    have := (Reps.none R 2).snoc hd hv
    simpa using this
  have hrep : Reps R 2 (l.take i ++ [d] ++ l.drop i) (inner.take (i * 2) ++ vs ++ inner.drop (i * 2)) := Reps.append_ (Reps.append_ (Kd.reps_take (m := i) hr hi) h1) (Kd.reps_drop (m := i) hr)
  rw [← hlen] at ho
  exact RowIs.ofOwn ho hrep
def putI (l : List Df) (nm : ByteArray) : Nat := if ixN (fun s => Op.bytesLess nm.toList s.toList) l < 0 then l.length else (ixN (fun s => Op.bytesLess nm.toList s.toList) l).toNat
def putF (l : List Df) (nm : ByteArray) (cols : List S36) (e : Int) : List Df × Int :=
  if e = 0 then (if 0 ≤ atI l nm then ([], 7) else if 64 ≤ l.length then ([], 5) else (l.take (putI l nm) ++ [⟨nm, cols⟩] ++ l.drop (putI l nm), 0)) else ([], e)
set_option maxHeartbeats 8000000 in
set_option maxRecDepth 100000 in
theorem put_calls {R : Df → List Value → Prop} (A : Option Addr) (c : Nat) (l : List Df) (inner : List Value) (nm : ByteArray) (A1 : Option Addr) (c1 : Nat) (cols : List S36) (w : World) (hr : RowIs R w A l inner) (hK : ∀ p c, R p c → k24.K w p c) (hlc : l.length ≤ c)
    (hd : R ⟨nm, cols⟩ [.string nm, .slice A1 cols.length c1]) (e : Int) (hchk : schema_Check.f nm cols = some e) :
    Calls Tryz.prog 32 #[.slice A l.length c, .agg #[.string nm, .slice A1 cols.length c1]] w fun x w' => Below w.heap.size w w' ∧ ∃ A' c' inner', x = .returned (.tuple #[.slice A' (putF l nm cols e).1.length c', .int .i64 (putF l nm cols e).2]) ∧ (putF l nm cols e).1.length ≤ c' ∧ RowIs R w' A' (putF l nm cols e).1 inner' := by
  have hu24 := Tryz.underlying24
  obtain ⟨A1', c1', he, hc1, hC1⟩ := k24_open (hK _ _ hd)
  obtain ⟨rfl, rfl⟩ : A1 = A1' ∧ c1 = c1' := by
    simp only [List.cons.injEq, Value.slice.injEq, and_true, true_and] at he
    exact ⟨he.1, he.2⟩
  have eg : ∀ args w, (callFunc 62 args).run Tryz.prog w = .ok (.enter 62 args) w := enters_of Tryz.func62 (by kernel_rfl) rfl
  have hl := hr.2.1
  have hone := hr.one hK
  have HC := Aside0.mk (hr.toC hK)
  have W0b := Aside0.mk (below_alloc (Below.refl w.heap.size w) (.cells #[.string nm, .slice A1 cols.length c1] 24))
  have CHK := Aside0.mk (fun (W : World) (hb : Below w.heap.size w W) => schema_Check.calls nm A1 c1 cols e W (Kd.C_below hC1 hb) hc1 hchk)
  have CAT := Aside0.mk (fun (W : World) (hb : Below w.heap.size w W) => at_calls A c l nm W (Kd.C_below HC.out hb) hl)
  have CIX := Aside0.mk (fun (W : World) (hb : Below w.heap.size w W) (hk : W.heap[w.heap.size]? = some (.cells #[.string nm, .slice A1 cols.length c1] 24 (0, 0))) =>
    idxD 62 #[.pointer (some ⟨w.heap.size, 0, none⟩)] eg (fun s => Op.bytesLess nm.toList s.toList) A c l W (Kd.C_below HC.out hb) hl (fun W' x hb' => put_lit nm _ _ w.heap.size W hk W' x hb'))
  have HCL := Aside0.mk (fun (W : World) (hb : Below w.heap.size w W) (hbig : l.length * 40 ≤ 140737488355328) => clone_own A c l.length inner W hr.1.1 (hr.below hb).2.2 hone hbig)
  have HINS := Aside0.mk (fun (W : World) (base vb i : Nat) (v : Value) (ho : W.ownsRow base 24 2 v l.length inner) (hi : i ≤ l.length) (hv : W.heap[vb]? = some (.cells #[.string nm, .slice A1 cols.length c1] 24 (0, 0))) (hvb : v.ownBlock ≠ some vb) (hbase : base ≤ W.heap.size) (hbig : (l.length + 1) * 40 ≤ 140737488355328) =>
    insert_own (vs := [.string nm, .slice A1 cols.length c1]) ho hone hi rfl hv (k24.K_one (hK _ _ hd)) hvb hbase hbig)
  have HD := Aside0.mk hd
  have HR := Aside0.mk hr
  clear hd hr hK hone he eg hC1 hchk hl
  by_cases he : e = 0
  · subst he
    rw [show putF l nm cols 0 = (if 0 ≤ atI l nm then ([], 7) else if 64 ≤ l.length then ([], 5) else (l.take (putI l nm) ++ [⟨nm, cols⟩] ++ l.drop (putI l nm), 0)) from if_pos rfl]
    by_cases hat : 0 ≤ atI l nm
    · rw [if_pos hat]
      generalize atI l nm = ia at hat CAT
      clear CIX HCL HINS
      go_enter Tryz.func32, Tryz.ntmps32
      go_wp2_with (first
        | (go_at_call 18; refine (CHK.out _ W0b.out).mono ?_; rintro x w1 ⟨rfl, hb⟩; have HB1 := Aside0.mk (W0b.out.trans (hb.mono W0b.out.size)); have BK1 := Aside0.mk ((hb.block w.heap.size (by simp)).trans (heap_alloc_new w _)); obtain ⟨b0, b1, bf⟩ := box_facts BK1.out; clear hb)
        | (go_at_call 60; refine (CAT.out _ HB1.out).mono ?_; rintro x w2 ⟨rfl, hb⟩; have HB2 := Aside0.mk (HB1.out.trans (hb.mono HB1.out.size)); have BK2 := Aside0.mk ((hb.block w.heap.size (Array.getElem?_eq_some_iff.1 BK1.out).1).trans BK1.out); obtain ⟨b3, b4, bf2⟩ := box_facts BK2.out; clear hb))
      go_ret2
      exact ⟨HB2.out, none, 0, [], rfl, Nat.le_refl _, RowIs.nil _ _ _⟩
    · rw [if_neg hat]
      have hatn : ¬ (atI l nm ≥ 0) := hat
      generalize atI l nm = ia at hat hatn CAT
      by_cases h64 : 64 ≤ l.length
      · rw [if_pos h64]
        have h64i : (l.length : Int) ≥ 64 := by omega
        clear CIX HCL HINS
        go_enter Tryz.func32, Tryz.ntmps32
        go_wp2_with (first
          | (go_at_call 18; refine (CHK.out _ W0b.out).mono ?_; rintro x w1 ⟨rfl, hb⟩; have HB1 := Aside0.mk (W0b.out.trans (hb.mono W0b.out.size)); have BK1 := Aside0.mk ((hb.block w.heap.size (by simp)).trans (heap_alloc_new w _)); obtain ⟨b0, b1, bf⟩ := box_facts BK1.out; clear hb)
          | (go_at_call 60; refine (CAT.out _ HB1.out).mono ?_; rintro x w2 ⟨rfl, hb⟩; have HB2 := Aside0.mk (HB1.out.trans (hb.mono HB1.out.size)); have BK2 := Aside0.mk ((hb.block w.heap.size (Array.getElem?_eq_some_iff.1 BK1.out).1).trans BK1.out); obtain ⟨b3, b4, bf2⟩ := box_facts BK2.out; clear hb))
        go_ret2
        exact ⟨HB2.out, none, 0, [], rfl, Nat.le_refl _, RowIs.nil _ _ _⟩
      · rw [if_neg h64]
        have h64i : ¬ ((l.length : Int) ≥ 64) := by omega
        have h64j : ¬ ((64 : Int) ≤ (l.length : Int)) := by omega
        have hbig : l.length * 40 ≤ 140737488355328 := by omega
        have hbig2 : (l.length + 1) * 40 ≤ 140737488355328 := by omega
        have hlt := ixN_lt (fun s => Op.bytesLess nm.toList s.toList) l
        have hpu : putI l nm = if ixN (fun s => Op.bytesLess nm.toList s.toList) l < 0 then l.length else (ixN (fun s => Op.bytesLess nm.toList s.toList) l).toNat := rfl
        rw [hpu]
        clear hpu
        generalize ixN (fun s => Op.bytesLess nm.toList s.toList) l = ix at hlt CIX ⊢
        by_cases hix : ix < 0
        · rw [if_pos hix]
          have em : ix = -1 := by omega
          subst em
          clear hlt
          go_enter Tryz.func32, Tryz.ntmps32
          go_wp2_with (first
            | (go_at_call 18; refine (CHK.out _ W0b.out).mono ?_; rintro x w1 ⟨rfl, hb⟩; have HB1 := Aside0.mk (W0b.out.trans (hb.mono W0b.out.size)); have BK1 := Aside0.mk ((hb.block w.heap.size (by simp)).trans (heap_alloc_new w _)); obtain ⟨b0, b1, bf⟩ := box_facts BK1.out; clear hb)
            | (go_at_call 60; refine (CAT.out _ HB1.out).mono ?_; rintro x w2 ⟨rfl, hb⟩; have HB2 := Aside0.mk (HB1.out.trans (hb.mono HB1.out.size)); have BK2 := Aside0.mk ((hb.block w.heap.size (Array.getElem?_eq_some_iff.1 BK1.out).1).trans BK1.out); obtain ⟨b3, b4, bf2⟩ := box_facts BK2.out; clear hb)
            | (go_at_call 61; refine (CIX.out _ HB2.out BK2.out).mono ?_; rintro x w3 ⟨rfl, hb⟩; have HB3 := Aside0.mk (HB2.out.trans (hb.mono HB2.out.size)); have BK3 := Aside0.mk ((hb.block w.heap.size (Array.getElem?_eq_some_iff.1 BK2.out).1).trans BK2.out); obtain ⟨b5, b6, bf3⟩ := box_facts BK3.out; clear hb)
            | (go_at_call 64; refine (HCL.out _ HB3.out hbig).mono ?_; rintro x w4 ⟨v4, rfl, ho4, hb⟩; have HO4 := Aside0.mk ho4; have HB34 := Aside0.mk hb; have HB4 := Aside0.mk (HB3.out.trans (hb.mono HB3.out.size)); have BK4 := Aside0.mk ((hb.block w.heap.size (Array.getElem?_eq_some_iff.1 BK3.out).1).trans BK3.out); obtain ⟨b7, b8, bf4⟩ := box_facts BK4.out; clear hb ho4))
          have hile : l.length ≤ l.length := Nat.le_refl _
          refine start_ (n := 8) (S := fun w' => w'.cell? ⟨w.heap.size, 0, none⟩ = some (.string nm) ∧ w'.cell? ⟨w.heap.size, 1, none⟩ = some (.slice A1 cols.length c1)) (ds := []) #[false, false, false, false, false, false, false, false] (by kernel_rfl) rfl rfl ⟨b5, b6⟩ (fun hHeld => ?_); refine with_tabW putReg.tab putReg.bits (fun HT_ HW_ => ?_)
          have HB3d := Aside0.mk (below_drew1 HB3.out)
          have BK3d := Aside0.mk (show w3.drew.heap[w.heap.size]? = some (.cells #[.string nm, .slice A1 cols.length c1] 24 (0, 0)) from BK3.out)
          generalize w3.drew = w9 at HB3d BK3d hHeld ⊢
          clear b0 b1 bf b3 b4 bf2 b5 b6 bf3 HB1 HB2 HB3 BK1 BK2 BK3 CHK CAT CIX
          refine pure_ (i := 0) (N := some 30) (v := ?_) (a' := ?_) #[true, false, false, false, false, false, false, false] rfl rfl (any_of HT_.out (by kernel_rfl)) (fun _ _ _ h => h) (Or.inl ⟨by rfl, ?_⟩) ?_ ?_
          rotate_left
          · intro w'
            go_simp
            with_reducible rfl
          rotate_left
          · simp only [Act.put, List.setIfInBounds_toArray, List.set_cons_zero, List.set_cons_succ, i64_w, i32_w]
            rfl
          refine pure_ (i := 2) (N := some 32) (v := ?_) (a' := ?_) #[true, false, true, false, false, false, false, false] rfl rfl (any_of HT_.out (by kernel_rfl)) (fun _ _ _ h => h) (Or.inl ⟨by rfl, ?_⟩) ?_ ?_
          rotate_left
          · intro w'
            go_simp
            with_reducible rfl
          rotate_left
          · simp only [Act.put, List.setIfInBounds_toArray, List.set_cons_zero, List.set_cons_succ, i64_w, i32_w]
            rfl
          refine take_ (i := 3) (N := some 33) (v := ?_) (a' := ?_) #[true, false, true, true, false, false, false, false] rfl rfl (take_ofW HT_.out HW_.out (by kernel_rfl)) (fun _ _ _ h => h) (Or.inl ⟨by rfl, ?_⟩) hHeld ?_ ?_
          rotate_left
          · rintro w' ⟨s0, s1⟩
            go_simp
            with_reducible rfl
          rotate_left
          · simp only [Act.put, List.setIfInBounds_toArray, List.set_cons_zero, List.set_cons_succ, i64_w, i32_w]
            rfl
          refine join_ (σ := Nat × Value) 3 #[true, true, true, true, true, false, false, false] (fun s_ => [(31, s_.2), (34, .slice (some ⟨s_.1, 0, none⟩) 1 1)]) (fun s_ w' => (fun w' => w'.cell? ⟨w.heap.size, 0, none⟩ = some (.string nm) ∧ w'.cell? ⟨w.heap.size, 1, none⟩ = some (.slice A1 cols.length c1)) w' ∧ Below w.heap.size w w' ∧ ∃ base, w'.ownsRow base 24 2 s_.2 l.length inner ∧ w'.heap[s_.1]? = some (.cells #[.string nm, .slice A1 cols.length c1] 24 (0, 0)) ∧ s_.2.ownBlock ≠ some s_.1 ∧ base ≤ w'.heap.size ∧ w.heap.size < base) ?_ ?_
          rotate_left
          · intro hCont
            refine two_ (i := 1) (j := 4) (Ni := some 31) (Nj := some 34) #[true, true, true, true, false, false, false, false] #[true, false, true, true, true, false, false, false] rfl rfl rfl rfl (two_of HT_.out (by kernel_rfl)) (by decide) (by decide) (fun K hK => ?_) (fun K hK => ?_)
            · skip
              refine goes_ Tryz.func64 (by kernel_rfl) rfl #[.slice A l.length c] (by rfl) rfl rfl (by (try simp only [List.map_toArray, List.map_cons, List.map_nil]); first | done | rfl | (simp only [List.length_drop, List.length_take]; rfl)) ?_
              refine (HCL.out _ HB3d.out hbig).mono ?_
              rintro x w4 ⟨v4, rfl, ho4, hb4⟩
              refine ⟨_, rfl, ?_⟩
              have BK := Aside0.mk ((hb4.block w.heap.size (blk_lt BK3d.out)).trans BK3d.out)
              refine hK.out _ _ ⟨(blk_cell BK.out 0).trans rfl, (blk_cell BK.out 1).trans rfl⟩ (fun hHeld => ?_)
              clear hK K
              refine norm_ (a' := ?_) ?_ ?_
              rotate_left
              · show Act.put _ (some 31) _ = _
                simp only [Act.put, List.setIfInBounds_toArray, List.set_cons_zero, List.set_cons_succ, i64_w, i32_w]
                rfl
              refine one_ (i := 4) (N := some 34) #[true, true, true, true, true, false, false, false] rfl rfl (one_of HT_.out (by kernel_rfl)) (by decide) (fun K hK => ?_)
              refine value_ (w1 := w4.alloc (.cells #[.string nm, .slice A1 cols.length c1] 24)) (v := .slice (some ⟨w4.heap.size, 0, none⟩) 1 1) (by rfl) rfl ?_ ?_
              · go_simp
                first | done | rfl
              have BK' := Aside0.mk ((Below.heap_alloc w4 (.cells #[.string nm, .slice A1 cols.length c1] 24) w.heap.size (blk_lt BK.out)).trans BK.out)
              refine hK.out _ _ ⟨(blk_cell BK'.out 0).trans rfl, (blk_cell BK'.out 1).trans rfl⟩ (fun hHeld => ?_)
              clear hK K
              obtain ⟨p1, p2, p3, p4, p5⟩ := pack1 (o := (.cells #[.string nm, .slice A1 cols.length c1] 24)) hb4 ho4
              exact norm_ (by simp only [putAll, Act.put, List.setIfInBounds_toArray, List.set_cons_zero, List.set_cons_succ]) (hCont (w4.heap.size, v4) _ ⟨hHeld, HB3d.out.trans (p5.mono HB3d.out.size), w9.heap.size, p1, p2, p3, p4, blk_lt BK3d.out⟩)
            · skip
              refine value_ (w1 := w9.alloc (.cells #[.string nm, .slice A1 cols.length c1] 24)) (v := .slice (some ⟨w9.heap.size, 0, none⟩) 1 1) (by rfl) rfl ?_ ?_
              · go_simp
                first | done | rfl
              have BK := Aside0.mk ((Below.heap_alloc w9 (.cells #[.string nm, .slice A1 cols.length c1] 24) w.heap.size (blk_lt BK3d.out)).trans BK3d.out)
              have HBa := Aside0.mk (HB3d.out.alloc HB3d.out.size (.cells #[.string nm, .slice A1 cols.length c1] 24))
              refine hK.out _ _ ⟨(blk_cell BK.out 0).trans rfl, (blk_cell BK.out 1).trans rfl⟩ (fun hHeld => ?_)
              clear hK K
              refine norm_ (a' := ?_) ?_ ?_
              rotate_left
              · show Act.put _ (some 34) _ = _
                simp only [Act.put, List.setIfInBounds_toArray, List.set_cons_zero, List.set_cons_succ, i64_w, i32_w]
                rfl
              refine one_ (i := 1) (N := some 31) #[true, true, true, true, true, false, false, false] rfl rfl (one_of HT_.out (by kernel_rfl)) (by decide) (fun K hK => ?_)
              refine goes_ Tryz.func64 (by kernel_rfl) rfl #[.slice A l.length c] (by rfl) rfl rfl (by (try simp only [List.map_toArray, List.map_cons, List.map_nil]); first | done | rfl | (simp only [List.length_drop, List.length_take]; rfl)) ?_
              refine (HCL.out _ HBa.out hbig).mono ?_
              rintro x w4 ⟨v4, rfl, ho4, hb4⟩
              refine ⟨_, rfl, ?_⟩
              have BK' := Aside0.mk ((hb4.block w.heap.size (blk_lt BK.out)).trans BK.out)
              refine hK.out _ _ ⟨(blk_cell BK'.out 0).trans rfl, (blk_cell BK'.out 1).trans rfl⟩ (fun hHeld => ?_)
              clear hK K
              obtain ⟨p1, p2, p3, p4⟩ := pack2 (o := (.cells #[.string nm, .slice A1 cols.length c1] 24)) hb4 ho4
              exact norm_ (by simp only [putAll, Act.put, List.setIfInBounds_toArray, List.set_cons_zero, List.set_cons_succ]) (hCont (w9.heap.size, v4) _ ⟨hHeld, HBa.out.trans (hb4.mono HBa.out.size), _, p1, p2, p3, p4, blk_lt BK.out⟩)
          rintro ⟨vb, v4⟩ w4 ⟨hHeld, hb4, base, p1, p2, p3, p4, p6⟩
          have HB4 := Aside0.mk hb4
          refine norm_ (a' := ?_) ?_ ?_
          rotate_left
          · simp only [putAll, Act.put, List.setIfInBounds_toArray, List.set_cons_zero, List.set_cons_succ]
            rfl
          refine one_ (i := 5) (N := some 35) #[true, true, true, true, true, true, false, false] rfl rfl (one_of HT_.out (by kernel_rfl)) (by decide) (fun K hK => ?_)
          refine goes_ Tryz.func63 (by kernel_rfl) rfl #[v4, .int .i64 (l.length : Int), .slice (some ⟨vb, 0, none⟩) 1 1] (by rfl) rfl rfl (by (try simp only [List.map_toArray, List.map_cons, List.map_nil]); first | done | rfl | (simp only [List.length_drop, List.length_take]; rfl)) ?_
          refine (HINS.out _ _ _ _ _ p1 hile p2 p3 p4 hbig2).mono ?_
          rintro x w5 ⟨v5, rfl, ho5, hb5⟩
          refine ⟨_, rfl, ?_⟩
          have HO5 := Aside0.mk ho5
          have HB5 := Aside0.mk (HB4.out.trans (hb5.mono (Nat.le_of_lt p6)))
          clear p1 p2 p3 p4 ho5
          refine hK.out _ _ ⟨keep_cell hb5 p6 hHeld.1, keep_cell hb5 p6 hHeld.2⟩ (fun hHeld => ?_)
          clear hK K
          refine norm_ (a' := ?_) ?_ ?_
          rotate_left
          · show Act.put _ (some 35) _ = _
            simp only [Act.put, List.setIfInBounds_toArray, List.set_cons_zero, List.set_cons_succ, i64_w, i32_w]
            rfl
          refine pure_ (i := 6) (N := some 4) (v := ?_) (a' := ?_) #[true, true, true, true, true, true, true, false] rfl rfl (any_of HT_.out (by kernel_rfl)) (fun _ _ _ h => h) (Or.inl ⟨by rfl, ?_⟩) ?_ ?_
          rotate_left
          · intro w'
            go_simp
            with_reducible rfl
          rotate_left
          · simp only [Act.put, List.setIfInBounds_toArray, List.set_cons_zero, List.set_cons_succ, i64_w, i32_w]
            rfl
          refine pure_ (i := 7) (N := some 5) (v := ?_) (a' := ?_) #[true, true, true, true, true, true, true, true] rfl rfl (any_of HT_.out (by kernel_rfl)) (fun _ _ _ h => h) (Or.inl ⟨by rfl, ?_⟩) ?_ ?_
          rotate_left
          · intro w'
            go_simp
            with_reducible rfl
          rotate_left
          · simp only [Act.put, List.setIfInBounds_toArray, List.set_cons_zero, List.set_cons_succ, i64_w, i32_w]
            rfl
          refine done_ (done_of HT_.out (by kernel_rfl)) ?_
          obtain ⟨A', c', rfl, hc', hrow⟩ := put_fin HR.out.1 HD.out rfl hile HO5.out
          go_wp2
          go_ret2
          exact ⟨HB5.out, A', c', _, rfl, hc', hrow⟩
        · rw [if_neg hix]
          obtain ⟨i, rfl⟩ : ∃ n : Nat, ix = n := ⟨ix.toNat, by omega⟩
          rw [show ((i : Int).toNat) = i from rfl]
          have hile : i ≤ l.length := by omega
          clear hlt
          go_enter Tryz.func32, Tryz.ntmps32
          go_wp2_with (first
            | (go_at_call 18; refine (CHK.out _ W0b.out).mono ?_; rintro x w1 ⟨rfl, hb⟩; have HB1 := Aside0.mk (W0b.out.trans (hb.mono W0b.out.size)); have BK1 := Aside0.mk ((hb.block w.heap.size (by simp)).trans (heap_alloc_new w _)); obtain ⟨b0, b1, bf⟩ := box_facts BK1.out; clear hb)
            | (go_at_call 60; refine (CAT.out _ HB1.out).mono ?_; rintro x w2 ⟨rfl, hb⟩; have HB2 := Aside0.mk (HB1.out.trans (hb.mono HB1.out.size)); have BK2 := Aside0.mk ((hb.block w.heap.size (Array.getElem?_eq_some_iff.1 BK1.out).1).trans BK1.out); obtain ⟨b3, b4, bf2⟩ := box_facts BK2.out; clear hb)
            | (go_at_call 61; refine (CIX.out _ HB2.out BK2.out).mono ?_; rintro x w3 ⟨rfl, hb⟩; have HB3 := Aside0.mk (HB2.out.trans (hb.mono HB2.out.size)); have BK3 := Aside0.mk ((hb.block w.heap.size (Array.getElem?_eq_some_iff.1 BK2.out).1).trans BK2.out); obtain ⟨b5, b6, bf3⟩ := box_facts BK3.out; clear hb)
            | (go_at_call 64; refine (HCL.out _ HB3.out hbig).mono ?_; rintro x w4 ⟨v4, rfl, ho4, hb⟩; have HO4 := Aside0.mk ho4; have HB34 := Aside0.mk hb; have HB4 := Aside0.mk (HB3.out.trans (hb.mono HB3.out.size)); have BK4 := Aside0.mk ((hb.block w.heap.size (Array.getElem?_eq_some_iff.1 BK3.out).1).trans BK3.out); obtain ⟨b7, b8, bf4⟩ := box_facts BK4.out; clear hb ho4))
          refine start_ (n := 8) (S := fun w' => w'.cell? ⟨w.heap.size, 0, none⟩ = some (.string nm) ∧ w'.cell? ⟨w.heap.size, 1, none⟩ = some (.slice A1 cols.length c1)) (ds := []) #[false, false, false, false, false, false, false, false] (by kernel_rfl) rfl rfl ⟨b5, b6⟩ (fun hHeld => ?_); refine with_tabW putReg.tab putReg.bits (fun HT_ HW_ => ?_)
          have HB3d := Aside0.mk (below_drew1 HB3.out)
          have BK3d := Aside0.mk (show w3.drew.heap[w.heap.size]? = some (.cells #[.string nm, .slice A1 cols.length c1] 24 (0, 0)) from BK3.out)
          generalize w3.drew = w9 at HB3d BK3d hHeld ⊢
          clear b0 b1 bf b3 b4 bf2 b5 b6 bf3 HB1 HB2 HB3 BK1 BK2 BK3 CHK CAT CIX
          refine pure_ (i := 0) (N := some 30) (v := ?_) (a' := ?_) #[true, false, false, false, false, false, false, false] rfl rfl (any_of HT_.out (by kernel_rfl)) (fun _ _ _ h => h) (Or.inl ⟨by rfl, ?_⟩) ?_ ?_
          rotate_left
          · intro w'
            go_simp
            with_reducible rfl
          rotate_left
          · simp only [Act.put, List.setIfInBounds_toArray, List.set_cons_zero, List.set_cons_succ, i64_w, i32_w]
            rfl
          refine pure_ (i := 2) (N := some 32) (v := ?_) (a' := ?_) #[true, false, true, false, false, false, false, false] rfl rfl (any_of HT_.out (by kernel_rfl)) (fun _ _ _ h => h) (Or.inl ⟨by rfl, ?_⟩) ?_ ?_
          rotate_left
          · intro w'
            go_simp
            with_reducible rfl
          rotate_left
          · simp only [Act.put, List.setIfInBounds_toArray, List.set_cons_zero, List.set_cons_succ, i64_w, i32_w]
            rfl
          refine take_ (i := 3) (N := some 33) (v := ?_) (a' := ?_) #[true, false, true, true, false, false, false, false] rfl rfl (take_ofW HT_.out HW_.out (by kernel_rfl)) (fun _ _ _ h => h) (Or.inl ⟨by rfl, ?_⟩) hHeld ?_ ?_
          rotate_left
          · rintro w' ⟨s0, s1⟩
            go_simp
            with_reducible rfl
          rotate_left
          · simp only [Act.put, List.setIfInBounds_toArray, List.set_cons_zero, List.set_cons_succ, i64_w, i32_w]
            rfl
          refine join_ (σ := Nat × Value) 3 #[true, true, true, true, true, false, false, false] (fun s_ => [(31, s_.2), (34, .slice (some ⟨s_.1, 0, none⟩) 1 1)]) (fun s_ w' => (fun w' => w'.cell? ⟨w.heap.size, 0, none⟩ = some (.string nm) ∧ w'.cell? ⟨w.heap.size, 1, none⟩ = some (.slice A1 cols.length c1)) w' ∧ Below w.heap.size w w' ∧ ∃ base, w'.ownsRow base 24 2 s_.2 l.length inner ∧ w'.heap[s_.1]? = some (.cells #[.string nm, .slice A1 cols.length c1] 24 (0, 0)) ∧ s_.2.ownBlock ≠ some s_.1 ∧ base ≤ w'.heap.size ∧ w.heap.size < base) ?_ ?_
          rotate_left
          · intro hCont
            refine two_ (i := 1) (j := 4) (Ni := some 31) (Nj := some 34) #[true, true, true, true, false, false, false, false] #[true, false, true, true, true, false, false, false] rfl rfl rfl rfl (two_of HT_.out (by kernel_rfl)) (by decide) (by decide) (fun K hK => ?_) (fun K hK => ?_)
            · skip
              refine goes_ Tryz.func64 (by kernel_rfl) rfl #[.slice A l.length c] (by rfl) rfl rfl (by (try simp only [List.map_toArray, List.map_cons, List.map_nil]); first | done | rfl | (simp only [List.length_drop, List.length_take]; rfl)) ?_
              refine (HCL.out _ HB3d.out hbig).mono ?_
              rintro x w4 ⟨v4, rfl, ho4, hb4⟩
              refine ⟨_, rfl, ?_⟩
              have BK := Aside0.mk ((hb4.block w.heap.size (blk_lt BK3d.out)).trans BK3d.out)
              refine hK.out _ _ ⟨(blk_cell BK.out 0).trans rfl, (blk_cell BK.out 1).trans rfl⟩ (fun hHeld => ?_)
              clear hK K
              refine norm_ (a' := ?_) ?_ ?_
              rotate_left
              · show Act.put _ (some 31) _ = _
                simp only [Act.put, List.setIfInBounds_toArray, List.set_cons_zero, List.set_cons_succ, i64_w, i32_w]
                rfl
              refine one_ (i := 4) (N := some 34) #[true, true, true, true, true, false, false, false] rfl rfl (one_of HT_.out (by kernel_rfl)) (by decide) (fun K hK => ?_)
              refine value_ (w1 := w4.alloc (.cells #[.string nm, .slice A1 cols.length c1] 24)) (v := .slice (some ⟨w4.heap.size, 0, none⟩) 1 1) (by rfl) rfl ?_ ?_
              · go_simp
                first | done | rfl
              have BK' := Aside0.mk ((Below.heap_alloc w4 (.cells #[.string nm, .slice A1 cols.length c1] 24) w.heap.size (blk_lt BK.out)).trans BK.out)
              refine hK.out _ _ ⟨(blk_cell BK'.out 0).trans rfl, (blk_cell BK'.out 1).trans rfl⟩ (fun hHeld => ?_)
              clear hK K
              obtain ⟨p1, p2, p3, p4, p5⟩ := pack1 (o := (.cells #[.string nm, .slice A1 cols.length c1] 24)) hb4 ho4
              exact norm_ (by simp only [putAll, Act.put, List.setIfInBounds_toArray, List.set_cons_zero, List.set_cons_succ]) (hCont (w4.heap.size, v4) _ ⟨hHeld, HB3d.out.trans (p5.mono HB3d.out.size), w9.heap.size, p1, p2, p3, p4, blk_lt BK3d.out⟩)
            · skip
              refine value_ (w1 := w9.alloc (.cells #[.string nm, .slice A1 cols.length c1] 24)) (v := .slice (some ⟨w9.heap.size, 0, none⟩) 1 1) (by rfl) rfl ?_ ?_
              · go_simp
                first | done | rfl
              have BK := Aside0.mk ((Below.heap_alloc w9 (.cells #[.string nm, .slice A1 cols.length c1] 24) w.heap.size (blk_lt BK3d.out)).trans BK3d.out)
              have HBa := Aside0.mk (HB3d.out.alloc HB3d.out.size (.cells #[.string nm, .slice A1 cols.length c1] 24))
              refine hK.out _ _ ⟨(blk_cell BK.out 0).trans rfl, (blk_cell BK.out 1).trans rfl⟩ (fun hHeld => ?_)
              clear hK K
              refine norm_ (a' := ?_) ?_ ?_
              rotate_left
              · show Act.put _ (some 34) _ = _
                simp only [Act.put, List.setIfInBounds_toArray, List.set_cons_zero, List.set_cons_succ, i64_w, i32_w]
                rfl
              refine one_ (i := 1) (N := some 31) #[true, true, true, true, true, false, false, false] rfl rfl (one_of HT_.out (by kernel_rfl)) (by decide) (fun K hK => ?_)
              refine goes_ Tryz.func64 (by kernel_rfl) rfl #[.slice A l.length c] (by rfl) rfl rfl (by (try simp only [List.map_toArray, List.map_cons, List.map_nil]); first | done | rfl | (simp only [List.length_drop, List.length_take]; rfl)) ?_
              refine (HCL.out _ HBa.out hbig).mono ?_
              rintro x w4 ⟨v4, rfl, ho4, hb4⟩
              refine ⟨_, rfl, ?_⟩
              have BK' := Aside0.mk ((hb4.block w.heap.size (blk_lt BK.out)).trans BK.out)
              refine hK.out _ _ ⟨(blk_cell BK'.out 0).trans rfl, (blk_cell BK'.out 1).trans rfl⟩ (fun hHeld => ?_)
              clear hK K
              obtain ⟨p1, p2, p3, p4⟩ := pack2 (o := (.cells #[.string nm, .slice A1 cols.length c1] 24)) hb4 ho4
              exact norm_ (by simp only [putAll, Act.put, List.setIfInBounds_toArray, List.set_cons_zero, List.set_cons_succ]) (hCont (w9.heap.size, v4) _ ⟨hHeld, HBa.out.trans (hb4.mono HBa.out.size), _, p1, p2, p3, p4, blk_lt BK.out⟩)
          rintro ⟨vb, v4⟩ w4 ⟨hHeld, hb4, base, p1, p2, p3, p4, p6⟩
          have HB4 := Aside0.mk hb4
          refine norm_ (a' := ?_) ?_ ?_
          rotate_left
          · simp only [putAll, Act.put, List.setIfInBounds_toArray, List.set_cons_zero, List.set_cons_succ]
            rfl
          refine one_ (i := 5) (N := some 35) #[true, true, true, true, true, true, false, false] rfl rfl (one_of HT_.out (by kernel_rfl)) (by decide) (fun K hK => ?_)
          refine goes_ Tryz.func63 (by kernel_rfl) rfl #[v4, .int .i64 (i : Int), .slice (some ⟨vb, 0, none⟩) 1 1] (by rfl) rfl rfl (by (try simp only [List.map_toArray, List.map_cons, List.map_nil]); first | done | rfl | (simp only [List.length_drop, List.length_take]; rfl)) ?_
          refine (HINS.out _ _ _ _ _ p1 hile p2 p3 p4 hbig2).mono ?_
          rintro x w5 ⟨v5, rfl, ho5, hb5⟩
          refine ⟨_, rfl, ?_⟩
          have HO5 := Aside0.mk ho5
          have HB5 := Aside0.mk (HB4.out.trans (hb5.mono (Nat.le_of_lt p6)))
          clear p1 p2 p3 p4 ho5
          refine hK.out _ _ ⟨keep_cell hb5 p6 hHeld.1, keep_cell hb5 p6 hHeld.2⟩ (fun hHeld => ?_)
          clear hK K
          refine norm_ (a' := ?_) ?_ ?_
          rotate_left
          · show Act.put _ (some 35) _ = _
            simp only [Act.put, List.setIfInBounds_toArray, List.set_cons_zero, List.set_cons_succ, i64_w, i32_w]
            rfl
          refine pure_ (i := 6) (N := some 4) (v := ?_) (a' := ?_) #[true, true, true, true, true, true, true, false] rfl rfl (any_of HT_.out (by kernel_rfl)) (fun _ _ _ h => h) (Or.inl ⟨by rfl, ?_⟩) ?_ ?_
          rotate_left
          · intro w'
            go_simp
            with_reducible rfl
          rotate_left
          · simp only [Act.put, List.setIfInBounds_toArray, List.set_cons_zero, List.set_cons_succ, i64_w, i32_w]
            rfl
          refine pure_ (i := 7) (N := some 5) (v := ?_) (a' := ?_) #[true, true, true, true, true, true, true, true] rfl rfl (any_of HT_.out (by kernel_rfl)) (fun _ _ _ h => h) (Or.inl ⟨by rfl, ?_⟩) ?_ ?_
          rotate_left
          · intro w'
            go_simp
            with_reducible rfl
          rotate_left
          · simp only [Act.put, List.setIfInBounds_toArray, List.set_cons_zero, List.set_cons_succ, i64_w, i32_w]
            rfl
          refine done_ (done_of HT_.out (by kernel_rfl)) ?_
          obtain ⟨A', c', rfl, hc', hrow⟩ := put_fin HR.out.1 HD.out rfl hile HO5.out
          go_wp2
          go_ret2
          exact ⟨HB5.out, A', c', _, rfl, hc', hrow⟩
  · have he' : ¬ (e = 0) := he
    rw [show putF l nm cols e = ([], e) from if_neg he]
    clear CIX HCL HINS CAT
    go_enter Tryz.func32, Tryz.ntmps32
    go_wp2_with (first
      | (go_at_call 18; refine (CHK.out _ W0b.out).mono ?_; rintro x w1 ⟨rfl, hb⟩; have HB1 := Aside0.mk (W0b.out.trans (hb.mono W0b.out.size)); have BK1 := Aside0.mk ((hb.block w.heap.size (by simp)).trans (heap_alloc_new w _)); obtain ⟨b0, b1, bf⟩ := box_facts BK1.out; clear hb))
    go_ret2
    exact ⟨HB1.out, none, 0, [], rfl, Nat.le_refl _, RowIs.nil _ _ _⟩
end Go.Proofs.YtmeopdjdjmjngaaGreatDoor.J
