/- Directories: names in order stay so; one put and taken out leaves what was. -/
import Derived.Test.YtmeopdjdjmjngaaGreatDoorPut11
import Derived.Test.YtmeopdjdjmjngaaGreatDoorJ5
namespace Go.Proofs.YtmeopdjdjmjngaaGreatDoor.J
open Go.RowKit Go.Proofs.YtmeopdjdjmjngaaGreatDoorW.PrintWords Go.Proofs.YtmeopdjdjmjngaaGreatDoorW.PrintLast
theorem less_irrefl (x : List UInt8) : Op.bytesLess x x = false := by
  have := bytesLess_turn x x
  cases h : Op.bytesLess x x with
  | false => rfl
  | true => rw [h] at this; simp at this
theorem less_asymm {x y : List UInt8} (h : Op.bytesLess x y = true) : Op.bytesLess y x = false := by
  have := bytesLess_turn x y
  rw [h] at this
  simpa using this.symm
theorem less_tri {x y : List UInt8} (h : Op.bytesLess x y = false) (hn : (y == x) = false) : Op.bytesLess y x = true := by
  have := bytesLess_turn x y
  rw [h] at this
  have e : (x == y) = false := by
    cases q : (x == y) with
    | false => rfl
    | true => rw [beq_iff_eq] at q; rw [q] at hn; simp at hn
  rw [e] at this
  simpa using this.symm
theorem less_trans : ∀ {x y z : List UInt8}, Op.bytesLess x y = true → Op.bytesLess y z = true → Op.bytesLess x z = true
  | _, _, [], _, h => by simp [Op.bytesLess] at h
  | _, [], _ :: _, h, _ => by simp [Op.bytesLess] at h
  | [], _ :: _, _ :: _, _, _ => by simp [Op.bytesLess]
  | a :: x, b :: y, c :: z, h1, h2 => by
    simp only [Op.bytesLess, Bool.or_eq_true, decide_eq_true_eq, Bool.and_eq_true, beq_iff_eq] at h1 h2 ⊢
    rcases h1 with h1 | ⟨rfl, h1⟩
    · rcases h2 with h2 | ⟨rfl, h2⟩
      · exact .inl (UInt8.lt_trans h1 h2)
      · exact .inl h1
    · rcases h2 with h2 | ⟨rfl, h2⟩
      · exact .inl h2
      · exact .inr ⟨rfl, less_trans h1 h2⟩
theorem ixFrom_spec (q : ByteArray → Bool) (z : ByteArray) : ∀ (l : List ByteArray) (i : Nat), (Lib.idxByFrom (fun _ s => q s) z l i = -1 ∧ ∀ s ∈ l, q s = false) ∨ ∃ j, ∃ h : j < l.length, Lib.idxByFrom (fun _ s => q s) z l i = ((i + j : Nat) : Int) ∧ q l[j] = true ∧ ∀ j' (h' : j' < l.length), j' < j → q l[j'] = false
  | [], _ => .inl ⟨rfl, fun s hs => by cases hs⟩
  | y :: r, i => by
    rw [Lib.idxByFrom]
    by_cases c : q y = true
    · rw [if_pos c]
      exact .inr ⟨0, by simp, by simp, by simpa using c, fun j' _ h => absurd h (Nat.not_lt_zero _)⟩
    · rw [if_neg c]
      have c' : q y = false := Bool.eq_false_iff.mpr c
      rcases ixFrom_spec q z r (i + 1) with ⟨h1, h2⟩ | ⟨j, hj, h1, h2, h3⟩
      · exact .inl ⟨h1, fun s hs => by
          rcases List.mem_cons.1 hs with rfl | hs
          · exact c'
          · exact h2 s hs⟩
      · refine .inr ⟨j + 1, by rw [List.length_cons]; omega, by rw [h1]; congr 1; omega, by simpa using h2, fun j' hj' hlt => ?_⟩
        cases j' with
        | zero => simpa using c'
        | succ j' => simpa using h3 j' (by rw [List.length_cons] at hj'; omega) (by omega)
theorem ixN_spec (q : ByteArray → Bool) (l : List Df) : (ixN q l = -1 ∧ ∀ x ∈ l, q x.f0 = false) ∨ ∃ j, ∃ h : j < l.length, ixN q l = (j : Int) ∧ q l[j].f0 = true ∧ ∀ j' (h' : j' < l.length), j' < j → q l[j'].f0 = false := by
  rcases ixFrom_spec q ByteArray.empty (l.map (·.f0)) 0 with ⟨h1, h2⟩ | ⟨j, hj, h1, h2, h3⟩
  · exact .inl ⟨h1, fun x hx => h2 _ (List.mem_map_of_mem hx)⟩
  · rw [List.length_map] at hj
    refine .inr ⟨j, hj, ?_, by simpa using h2, fun j' h' hlt => ?_⟩
    · show Lib.idxByFrom _ _ _ _ = _
      rw [h1, Nat.zero_add]
    · have := h3 j' (by rw [List.length_map]; exact h') hlt
      rw [List.getElem_map] at this
      exact this
/-- names in order, each once -/
def Srt (l : List Df) : Prop := ∀ i j (hi : i < l.length) (hj : j < l.length), i < j → Op.bytesLess l[i].f0.toList l[j].f0.toList = true
theorem Srt.uniq {l : List Df} (h : Srt l) {i j : Nat} (hi : i < l.length) (hj : j < l.length) (e : l[i].f0.toList = l[j].f0.toList) : i = j := by
  rcases Nat.lt_trichotomy i j with c | c | c
  · have := h i j hi hj c
    rw [e, less_irrefl] at this; cases this
  · exact c
  · have := h j i hj hi c
    rw [e, less_irrefl] at this; cases this
theorem Srt.nil : Srt [] := fun i j hi => absurd hi (Nat.not_lt_zero _)
theorem atI_at {l : List Df} (h : Srt l) {i : Nat} (hi : i < l.length) : atI l l[i].f0 = (i : Int) := by
  rcases ixN_spec (fun s => s.toList == l[i].f0.toList) l with ⟨_, h2⟩ | ⟨j, hj, h1, h2, _⟩
  · have := h2 l[i] (List.getElem_mem hi)
    simp at this
  · have e : l[j].f0.toList = l[i].f0.toList := by simpa using h2
    have := h.uniq hj hi e
    subst this
    exact h1
theorem putI_le (l : List Df) (nm : ByteArray) : putI l nm ≤ l.length := by
  unfold putI
  have := ixN_lt (fun s => Op.bytesLess nm.toList s.toList) l
  split <;> omega
def insD (l : List Df) (d : Df) : List Df := l.take (putI l d.f0) ++ [d] ++ l.drop (putI l d.f0)
theorem insD_len (l : List Df) (d : Df) : (insD l d).length = l.length + 1 := by
  have := putI_le l d.f0
  unfold insD
  simp only [List.length_append, List.length_take, List.length_drop, List.length_singleton]
  omega
theorem insD_at (l : List Df) (d : Df) : (insD l d)[putI l d.f0]'(by rw [insD_len]; have := putI_le l d.f0; omega) = d := by
  have := putI_le l d.f0
  unfold insD
  rw [List.getElem_append_left (by simp; omega), List.getElem_append_right (by rw [List.length_take]; omega)]
  simp
theorem insD_erase (l : List Df) (d : Df) : (insD l d).eraseIdx (putI l d.f0) = l := by
  have hp := putI_le l d.f0
  have h1 : (l.take (putI l d.f0)).length = putI l d.f0 := by rw [List.length_take]; omega
  rw [List.eraseIdx_eq_take_drop_succ]
  unfold insD
  rw [List.append_assoc, List.take_left' h1]
  have : List.drop (putI l d.f0 + 1) (l.take (putI l d.f0) ++ ([d] ++ l.drop (putI l d.f0))) = l.drop (putI l d.f0) := by
    rw [← List.append_assoc]
    exact List.drop_left' (by rw [List.length_append, h1]; rfl)
  rw [this, List.take_append_drop]
theorem srt_iff (l : List Df) : Srt l ↔ l.Pairwise (fun a b => Op.bytesLess a.f0.toList b.f0.toList = true) := by
  rw [List.pairwise_iff_getElem]
  exact Iff.rfl
theorem insD_srt {l : List Df} (h : Srt l) {d : Df} (hn : atI l d.f0 < 0) : Srt (insD l d) := by
  have hne : ∀ x ∈ l, (x.f0.toList == d.f0.toList) = false := by
    rcases ixN_spec (fun s => s.toList == d.f0.toList) l with ⟨_, h2⟩ | ⟨j, hj, h1, h2, _⟩
    · exact h2
    · have : atI l d.f0 = (j : Int) := h1
      omega
  have hlo : ∀ x ∈ l.take (putI l d.f0), Op.bytesLess x.f0.toList d.f0.toList = true := by
    intro x hx
    have hx' := List.mem_of_mem_take hx
    refine less_tri ?_ (hne x hx')
    rcases ixN_spec (fun s => Op.bytesLess d.f0.toList s.toList) l with ⟨_, h2⟩ | ⟨j, hj, h1, h2, h3⟩
    · exact h2 x hx'
    · have hp : putI l d.f0 = j := by unfold putI; rw [h1, if_neg (by omega)]; rfl
      rw [hp] at hx
      obtain ⟨k, hk, rfl⟩ := List.getElem_of_mem hx
      rw [List.length_take] at hk
      rw [List.getElem_take]
      exact h3 k (by omega) (by omega)
  have hhi : ∀ y ∈ l.drop (putI l d.f0), Op.bytesLess d.f0.toList y.f0.toList = true := by
    intro y hy
    rcases ixN_spec (fun s => Op.bytesLess d.f0.toList s.toList) l with ⟨h1, _⟩ | ⟨j, hj, h1, h2, h3⟩
    · have hp : putI l d.f0 = l.length := by unfold putI; rw [h1, if_pos (by omega)]
      rw [hp, List.drop_length] at hy
      cases hy
    · have hp : putI l d.f0 = j := by unfold putI; rw [h1, if_neg (by omega)]; rfl
      rw [hp] at hy
      obtain ⟨k, hk, rfl⟩ := List.getElem_of_mem hy
      rw [List.length_drop] at hk
      rw [List.getElem_drop]
      by_cases c : k = 0
      · subst c; exact h2
      · exact less_trans h2 (h j (j + k) hj (by omega) (by omega))
  rw [srt_iff] at h ⊢
  unfold insD
  rw [List.append_assoc, List.pairwise_append]
  refine ⟨h.sublist (List.take_sublist _ _), ?_, ?_⟩
  · rw [List.singleton_append, List.pairwise_cons]
    exact ⟨hhi, h.sublist (List.drop_sublist _ _)⟩
  · intro x hx y hy
    rcases List.mem_cons.1 hy with rfl | hy
    · exact hlo x hx
    · exact less_trans (hlo x hx) (hhi y hy)
theorem atI_ins {l : List Df} (h : Srt l) {d : Df} (hn : atI l d.f0 < 0) : atI (insD l d) d.f0 = (putI l d.f0 : Int) := by
  have hs := insD_srt h hn
  have := atI_at hs (i := putI l d.f0) (by rw [insD_len]; have := putI_le l d.f0; omega)
  rw [insD_at] at this
  exact this
/-- what Put answers: the directory with the definition, or none -/
theorem putF_ok {l : List Df} {d : Df} {e : Int} (h : (putF l d.f0 d.f1 e).2 = 0) : (putF l d.f0 d.f1 e).1 = insD l d ∧ atI l d.f0 < 0 ∧ l.length < 64 := by
  unfold putF at h ⊢
  by_cases c : e = 0
  · rw [if_pos c] at h ⊢
    by_cases c1 : 0 ≤ atI l d.f0
    · rw [if_pos c1] at h; exact absurd h (by decide)
    · rw [if_neg c1] at h ⊢
      by_cases c2 : 64 ≤ l.length
      · rw [if_pos c2] at h; exact absurd h (by decide)
      · rw [if_neg c2]
        exact ⟨rfl, by omega, by omega⟩
  · rw [if_neg c] at h; exact absurd h c
theorem lp_ends : ∀ (l : List S36) (seen : List (List UInt8)), ∃ r, schema_Check.lp l seen = some r := by
  intro l
  induction l with
  | nil => intro seen; exact ⟨_, rfl⟩
  | cons c r ih =>
    intro seen
    rw [schema_Check.lp]
    split
    · exact ⟨_, rfl⟩
    · obtain ⟨x, hx⟩ : ∃ x, value_CheckType.f c.f1.f0 c.f1.f1 = some x := by
        unfold value_CheckType.f value_scaled.f
        split
        · exact ⟨_, rfl⟩
        · split
          · exact ⟨_, rfl⟩
          · split
            · rw [Option.bind_some]; split
              · split
                · exact ⟨_, rfl⟩
                · split <;> exact ⟨_, rfl⟩
              · exact ⟨_, rfl⟩
            · exact ⟨_, rfl⟩
      rw [hx, Option.bind_some]
      split
      · exact ih _
      · exact ⟨_, rfl⟩
theorem Check_ends (nm : ByteArray) (l : List S36) (hm : l.length ≤ 4611686018427387904) : ∃ r, schema_Check.f nm l = some r := by
  unfold schema_Check.f
  rw [if_pos hm]
  split
  · split
    · exact ⟨_, rfl⟩
    · obtain ⟨x, hx⟩ := lp_ends l []
      rw [hx]; exact ⟨_, rfl⟩
  · exact ⟨_, rfl⟩
theorem rdC_is (l : List S36) (i : Nat) (h : i < l.length) : rd_T36 l (i : Int) = l[i] := by
  unfold rd_T36
  rw [Int.toNat_natCast, List.getD_eq_getElem?_getD, List.getElem?_eq_getElem h]
  rfl
theorem rdD_is (l : List Df) (i : Nat) (h : i < l.length) : rd_T24 l (i : Int) = l[i] := by
  unfold rd_T24
  rw [Int.toNat_natCast, List.getD_eq_getElem?_getD, List.getElem?_eq_getElem h]
  rfl
theorem w64D (a : Nat) (h : a ≤ 1000000000000000000) : wrap64 ((a : Int) + 1) = ((a + 1 : Nat) : Int) := by unfold wrap64; omega
theorem same_self_l (nm : ByteArray) (l : List S36) (hm : l.length ≤ 1000000000000000000) : ∀ (d k i : Nat), i + d = l.length → d < k → colonnaderef11_Same.l0 k (i : Int) nm l nm l = some true := by
  intro d
  induction d with
  | zero =>
    intro k i hi hk
    obtain ⟨k, rfl⟩ : ∃ m, k = m + 1 := ⟨k - 1, by omega⟩
    rw [colonnaderef11_Same.l0, if_neg (by omega)]
  | succ d ih =>
    intro k i hi hk
    obtain ⟨k, rfl⟩ : ∃ m, k = m + 1 := ⟨k - 1, by omega⟩
    rw [colonnaderef11_Same.l0, if_pos (by omega), if_pos (by omega), if_pos (by omega), if_neg (by simp), w64D i (by omega)]
    exact ih k (i + 1) (by omega) (by omega)
theorem same_self (nm : ByteArray) (l : List S36) (hm : l.length ≤ 1000000000000000000) (k : Nat) (hk : l.length + 2 < k) : colonnaderef11_Same.f k nm l nm l = some true := by
  obtain ⟨k, rfl⟩ : ∃ m, k = m + 1 := ⟨k - 1, by omega⟩
  unfold colonnaderef11_Same.f
  rw [if_pos rfl, colonnaderef11_Same.j0, if_neg (by simp)]
  exact same_self_l nm l hm l.length k 0 (by omega) (by omega)
theorem sameall_self_l (l : List Df) (M : Nat) (hM : M ≤ 1000000000000000000) (hm : l.length ≤ 1000000000000000000) (hc : ∀ x ∈ l, x.f1.length ≤ M) : ∀ (d k i : Nat), i + d = l.length → d + M + 10 < k → colonnaderef11_SameAll.l0 k l l (i : Int) = some true := by
  intro d
  induction d with
  | zero =>
    intro k i hi hk
    obtain ⟨k, rfl⟩ : ∃ m, k = m + 1 := ⟨k - 1, by omega⟩
    rw [colonnaderef11_SameAll.l0, if_neg (by omega)]
  | succ d ih =>
    intro k i hi hk
    obtain ⟨k, rfl⟩ : ∃ m, k = m + 1 := ⟨k - 1, by omega⟩
    have hlt : i < l.length := by omega
    have hmm := hc l[i] (List.getElem_mem hlt)
    rw [colonnaderef11_SameAll.l0, if_pos (by omega), if_pos (by omega), if_pos (by omega), rdD_is l i hlt, same_self _ _ (by omega) k (by omega), Option.bind_some, if_pos rfl, w64D i (by omega)]
    exact ih k (i + 1) (by omega) (by omega)
theorem sameall_self (l : List Df) (M : Nat) (hM : M ≤ 1000000000000000000) (hm : l.length ≤ 1000000000000000000) (hc : ∀ x ∈ l, x.f1.length ≤ M) (k : Nat) (hk : l.length + M + 10 < k) : colonnaderef11_SameAll.f k l l = some true := by
  unfold colonnaderef11_SameAll.f
  rw [if_pos rfl]
  exact sameall_self_l l M hM hm hc l.length k 0 (by omega) (by omega)
end Go.Proofs.YtmeopdjdjmjngaaGreatDoor.J
