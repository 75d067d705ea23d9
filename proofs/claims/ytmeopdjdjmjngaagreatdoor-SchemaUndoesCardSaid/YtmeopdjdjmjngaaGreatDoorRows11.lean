/- A row of definitions as its cells; slices.Clone, Insert, Delete on it; slices.IndexFunc by a name. -/
import Derived.Test.YtmeopdjdjmjngaaGreatDoorJ0
import Derived.Test.YtmeopdjdjmjngaaGreatDoorOwn11
import Derived.Test.YtmeopdjdjmjngaaGreatDoorShelf
import Derived.Shelf.SlicesQ.IndexFunc
set_option linter.unusedVariables false
set_option linter.unusedSimpArgs false
namespace Go.Proofs.YtmeopdjdjmjngaaGreatDoor.J
open Go.RowKit Go.Lib Go.Proofs.YtmeopdjdjmjngaaGreatDoorW.PrintWords Go.Proofs.YtmeopdjdjmjngaaGreatDoorW.PrintLast Go.Proofs.YtmeopdjdjmjngaaGreatDoorW.PrintMore Go.Proofs.YtmeopdjdjmjngaaGreatDoor.Ins
theorem one_of_reps {α : Type} {d : Kd α} {w : World} {ps : List α} {cs : List Value} (h : Reps (d.K w) d.sz ps cs) (hs : 0 < d.sz) : ∀ u ∈ cs, u.oneCell' = true := by
  intro u hu
  obtain ⟨j, hj, rfl⟩ := List.getElem_of_mem hu
  have h1 := h.1
  have hq : j / d.sz < ps.length := by rw [h1] at hj; exact (Nat.div_lt_iff_lt_mul hs).2 hj
  have hK := h.2 (j / d.sz) _ (List.getElem?_eq_getElem hq)
  refine d.K_one hK _ ?_
  rw [List.mem_iff_getElem?]
  refine ⟨j % d.sz, ?_⟩
  rw [List.getElem?_take, if_pos (Nat.mod_lt _ hs), List.getElem?_drop, Nat.div_add_mod' j d.sz, List.getElem?_eq_getElem hj]
theorem Reps.append_ {α : Type} {R : α → List Value → Prop} {size : Nat} {ps qs : List α} {cs ds : List Value} (h : Reps R size ps cs) (k : Reps R size qs ds) : Reps R size (ps ++ qs) (cs ++ ds) := by
  refine ⟨by rw [List.length_append, List.length_append, h.1, k.1, Nat.add_mul], fun j p hj => ?_⟩
  by_cases c : j < ps.length
  · rw [List.getElem?_append_left c] at hj
    have h1 : j * size + size ≤ cs.length := by rw [h.1, ← Nat.succ_mul]; exact Nat.mul_le_mul_right _ c
    rw [List.drop_append_of_le_length (by omega), List.take_append_of_le_length (by rw [List.length_drop]; omega)]
    exact h.2 j p hj
  · rw [List.getElem?_append_right (by omega)] at hj
    have := k.2 _ p hj
    have e : j * size = cs.length + (j - ps.length) * size := by rw [h.1, ← Nat.add_mul]; congr 1; omega
    rw [e, ← List.drop_drop, List.drop_left]
    exact this
/-- a row that is read, as its cells -/
theorem cells_of {α : Type} {d : Kd α} {w : World} {A : Option Addr} {l : List α} (h : d.C w A l.length l) : ∃ inner, Reps (d.K w) d.sz l inner ∧ (0 < l.length → ∃ ad, A = some ad ∧ ∀ j u, inner[j]? = some u → w.cell? (ad.add j) = some u) := by
  obtain ⟨h1, h2, h3⟩ := h
  rcases Nat.eq_zero_or_pos l.length with h0 | h0
  · obtain rfl := List.length_eq_zero_iff.1 h0
    exact ⟨[], Reps.none _ _, fun q => absurd q (Nat.lt_irrefl 0)⟩
  · obtain ⟨ad, e, hc⟩ := h3 h0
    have go : ∀ m, m ≤ l.length → ∃ inner, Reps (d.K w) d.sz (l.take m) inner ∧ ∀ j u, inner[j]? = some u → w.cell? (ad.add j) = some u := by
      intro m
      induction m with
      | zero => intro _; exact ⟨[], by rw [List.take_zero]; exact Reps.none _ _, fun j u hj => by simp at hj⟩
      | succ m ih =>
        intro hm
        obtain ⟨inner, r1, r2⟩ := ih (by omega)
        obtain ⟨c, c1, c2, c3⟩ := hc m l[m] (List.getElem?_eq_getElem (by omega))
        refine ⟨inner ++ c, ?_, ?_⟩
        · rw [← List.take_append_getElem (show m < l.length by omega)]
          exact r1.snoc c2 c1
        · intro j u hj
          have hl : inner.length = m * d.sz := by rw [r1.1, List.length_take, Nat.min_eq_left (by omega)]
          by_cases c : j < inner.length
          · rw [List.getElem?_append_left c] at hj; exact r2 j u hj
          · rw [List.getElem?_append_right (by omega)] at hj
            have := c3 _ u hj
            rw [show m * d.sz + (j - inner.length) = j by omega] at this
            exact this
    obtain ⟨inner, r1, r2⟩ := go l.length (Nat.le_refl _)
    rw [List.take_length] at r1
    exact ⟨inner, r1, fun _ => ⟨ad, e, r2⟩⟩
theorem reps_below {α : Type} {d : Kd α} {w w1 : World} {ps : List α} {cs : List Value} (h : Reps (d.K w) d.sz ps cs) (hb : Below w.heap.size w w1) : Reps (d.K w1) d.sz ps cs := h.imp_ (fun _ _ k => d.K_below hb k)
/-- a row of the call's own whose cells are known reads as its elements -/
theorem own_C {α : Type} {d : Kd α} {w : World} {base : Nat} {e : TypeId} {v : Value} {ps : List α} {cs : List Value} (h : w.ownsRow base e d.sz v ps.length cs) (hR : Reps (d.K w) d.sz ps cs) : ∃ A c, v = .slice A ps.length c ∧ ps.length ≤ c ∧ d.C w A ps.length ps := by
  obtain ⟨A, c, rfl, hr⟩ := own_reads_row h hR rfl
  refine ⟨A, c, rfl, ?_, hr⟩
  rcases h.2 with ⟨q, q0⟩ | ⟨g, cap, cur, q, _, _, hn, _⟩
  · injection q with _ q1 q2; omega
  · injection q with _ _ q2; omega
/-- a row of definitions in memory, its cells told by R -/
def RowIs (R : S24 → List Value → Prop) (W : World) (A : Option Addr) (l : List S24) (inner : List Value) : Prop := Reps R 2 l inner ∧ l.length ≤ 9223372036854775807 ∧ (0 < l.length → ∃ ad, A = some ad ∧ ∀ j u, inner[j]? = some u → W.cell? (ad.add j) = some u)
theorem RowIs.toC {R : S24 → List Value → Prop} {W : World} {A : Option Addr} {l : List S24} {inner : List Value} (h : RowIs R W A l inner) (hK : ∀ p c, R p c → k24.K W p c) : Kd.C k24 W A l.length l := by
  obtain ⟨h1, h2, h3⟩ := h
  refine ⟨rfl, h2, fun hp => ?_⟩
  obtain ⟨ad, e, hc⟩ := h3 hp
  refine ⟨ad, e, fun j p hj => ⟨(inner.drop (j * 2)).take 2, ?_, hK _ _ (h1.2 j p hj), fun i u hu => ?_⟩⟩
  · have hjl := (List.getElem?_eq_some_iff.1 hj).1
    have := h1.1
    show _ = 2
    rw [List.length_take, List.length_drop]
    omega
  · rw [List.getElem?_take] at hu
    split at hu
    · rw [List.getElem?_drop] at hu
      exact hc _ u hu
    · cases hu
theorem RowIs.below {R : S24 → List Value → Prop} {W W1 : World} {A : Option Addr} {l : List S24} {inner : List Value} (h : RowIs R W A l inner) (hb : Below W.heap.size W W1) : RowIs R W1 A l inner :=
  ⟨h.1, h.2.1, fun hp => by
    obtain ⟨ad, e, hc⟩ := h.2.2 hp
    exact ⟨ad, e, fun j u hj => pw_cell_below hb (hc j u hj)⟩⟩
theorem RowIs.nil (R : S24 → List Value → Prop) (W : World) (A : Option Addr) : RowIs R W A [] [] := ⟨Reps.none _ _, by simp, fun q => absurd q (Nat.lt_irrefl 0)⟩
theorem RowIs.ofC {W : World} {A : Option Addr} {l : List S24} (h : Kd.C k24 W A l.length l) : ∃ inner, RowIs (k24.K W) W A l inner := by
  obtain ⟨inner, r, hc⟩ := cells_of h
  exact ⟨inner, r, h.2.1, hc⟩
theorem RowIs.one {R : S24 → List Value → Prop} {W : World} {A : Option Addr} {l : List S24} {inner : List Value} (h : RowIs R W A l inner) (hK : ∀ p c, R p c → k24.K W p c) : ∀ u ∈ inner, u.oneCell' = true :=
  one_of_reps (d := k24) (w := W) (ps := l) (h.1.imp_ hK) (by decide)
theorem RowIs.ofOwn {R : S24 → List Value → Prop} {W : World} {base : Nat} {v : Value} {l : List S24} {inner : List Value} (h : W.ownsRow base 24 2 v l.length inner) (hR : Reps R 2 l inner) : ∃ A c, v = .slice A l.length c ∧ l.length ≤ c ∧ RowIs R W A l inner := by
  obtain ⟨A, c, rfl, hr⟩ := own_reads_row h hR rfl
  refine ⟨A, c, rfl, ?_, hR, hr.2.1, fun hp => ?_⟩
  · rcases h.2 with ⟨q, q0⟩ | ⟨g, cap, cur, q, _, _, hn, _⟩
    · injection q with _ q1 q2; omega
    · injection q with _ _ q2; omega
  · obtain ⟨g, cap, q, _, _⟩ := h.form hp
    injection q with q1 q2 q3
    subst q1
    exact ⟨_, rfl, fun j u hj => h.cells (g := g) rfl j u hj⟩
set_option maxHeartbeats 4000000 in
set_option maxRecDepth 100000 in
theorem clone_own (A : Option Addr) (c n : Nat) (inner : List Value) (w : World) (hl : inner.length = n * 2) (hc : 0 < n → ∃ ad, A = some ad ∧ ∀ j u, inner[j]? = some u → w.cell? (ad.add j) = some u) (h1 : ∀ u ∈ inner, u.oneCell' = true) (hbig : n * 40 ≤ 140737488355328) :
    Calls Tryz.prog 64 #[.slice A n c] w fun e w' => ∃ v', e = .returned v' ∧ w'.ownsRow w.heap.size 24 2 v' n inner ∧ Below w.heap.size w w' := by
  have mixed : Tryz.prog.follows Departure.mixedOrders = true := by kernel_rfl
  obtain ⟨i0, hi0, hz0, hzs, hzb⟩ := info_parts i24
  have q22 : ∀ (w : World) (a : Option Addr) (n c n' c' : Nat), (binOp .eql 54 (.slice a n c) (.slice none n' c')).run Tryz.prog w = .ok (.bool a.isNone) w := fun w a n c n' c' => Lib.run_eql_slice_nil w _ _ a n c n' c' hu54
  cases A with
  | none =>
    have h0 : n = 0 := by
      rcases Nat.eq_zero_or_pos n with h0 | h0
      · exact h0
      · obtain ⟨ad, e, _⟩ := hc h0; cases e
    have hR : Hid (w.ownsRow w.heap.size 24 2 (.slice none 0 0) n inner) := ⟨hl, .inl ⟨rfl, h0⟩⟩
    clear hc h1 hl hbig
    go_enter Tryz.func64, Tryz.ntmps64
    go_wp2
    go_ret
    exact ⟨_, rfl, hR, Below.refl _ _⟩
  | some ad =>
    have hcs : ∀ j u, inner[j]? = some u → w.cell? (ad.add j) = some u := by
      intro j u hj
      rcases Nat.eq_zero_or_pos n with h0 | h0
      · have := (List.getElem?_eq_some_iff.1 hj).1
        omega
      · obtain ⟨ad', e, h⟩ := hc h0
        obtain rfl := Option.some.inj e
        exact h j u hj
    have HT : Aside (∀ j u, inner[j]? = some u → (w.alloc (.cells #[] 24)).cell? (ad.add j) = some u) := fun j u hj => Lib.cell?_alloc_some _ (hcs j u hj)
    clear hc hcs
    go_enter Tryz.func64, Tryz.ntmps64
    go_wp2_with (at_builtin; refine wpList_append_own _ rfl _ _ 54 rfl w.heap.size 24 i0 zD 2 40 hu54 hi0 hz0 hzs hzb rfl (by decide) _ _ _ rfl (World.ownsRow_made w #[] 0 (Nat.le_refl _) (Nat.zero_le _) (by simp)) ad n c inner rfl ?qc1 ?qc2 ?qc3 ?qc4 ?qc5 ?qc6 ?_)
    case qc1 => exact hl
    case qc2 => exact HT.out
    case qc3 => exact h1
    case qc4 => rw [Nat.zero_add]; unfold maxLen; omega
    case qc5 => rw [Nat.zero_add]; exact hbig
    case qc6 => simp
    intro v' w1 hown hgrow _
    go_wp2
    go_ret
    exact ⟨v', rfl, by simpa using hown, ((Below.refl _ w).alloc (Nat.le_refl _) _).grown hgrow (by simp) (by intro k hk; simp [Value.ownBlock] at hk; omega)⟩
end Go.Proofs.YtmeopdjdjmjngaaGreatDoor.J
