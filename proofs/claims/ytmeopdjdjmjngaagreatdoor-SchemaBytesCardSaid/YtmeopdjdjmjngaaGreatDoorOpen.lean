/- A datum that is read of the world, as a Lean value: for each kind of values, and what its numbers and lengths are bounded by. No conditions beyond each theorem's own. -/
import Derived.Test.YtmeopdjdjmjngaaGreatDoorProg
import Derived.Test.YtmeopdjdjmjngaaGreatDoorVI
import Derived.Deep.Slices
import Derived.Deep.Fields
import Derived.ChangeArms
import Derived.ChangeSame
import Derived.SizedLaws
import Derived.KernelRfl
namespace Go.Proofs.YtmeopdjdjmjngaaGreatDoor
open Go.RowKit Go.Proofs.YtmeopdjdjmjngaaGreatDoorW.PrintWords Go.ChangeShapes Go.WideShapes

/-- What reads as a datum of type t is of this kind, and its value is good. -/
def Opens {α : Type} (R : Nat) (P : Program) (κ : Kd α) (t : TypeId) (G : α → Prop) : Prop :=
  ∀ {H : Type} (enc : TypeId × Value → H) (w : World) (base : Nat) (spare : Nat → Bool) (held : Bool) (fuel : Nat) (cs : List Value) (x : DataW H × List MemPlace),
    DataW.trod enc P w base spare held fuel t cs = some x → (∀ n ∈ x.1.weights P t, n ≤ R) → ∃ a : α, κ.K w a cs ∧ G a

theorem opens_int {R : Nat} {P : Program} {t : TypeId} {k : IntKind} (h : P.underlying t = some (.int k)) : Opens R P (Kd.int k) t (fun n => (Lit.int k n).wf = true) := by
  intro H enc w base spare held fuel cs x hx hw
  obtain ⟨n, rfl, _, hk⟩ := DataW.trod_int h hx
  exact ⟨n, rfl, hk⟩
theorem opens_bool {R : Nat} {P : Program} {t : TypeId} (h : P.underlying t = some .bool) : Opens R P Kd.bool t (fun _ => True) := by
  intro H enc w base spare held fuel cs x hx hw
  obtain ⟨b, rfl, _⟩ := DataW.trod_bool h hx
  exact ⟨b, rfl, trivial⟩
theorem opens_string {R : Nat} {P : Program} {t : TypeId} (h : P.underlying t = some .string) : Opens R P Kd.string t (fun s => s.size ≤ R) := by
  intro H enc w base spare held fuel cs x hx hw
  obtain ⟨s, rfl, rfl, _⟩ := DataW.trod_string h hx
  have z := hw s.data.toList.length (by simp [DataW.weights])
  rw [Array.length_toList] at z
  exact ⟨s, rfl, z⟩

theorem list_of {α : Type} (P : Nat → α → Prop) : ∀ n : Nat, (∀ i, i < n → ∃ a, P i a) → ∃ xs : List α, xs.length = n ∧ ∀ i a, xs[i]? = some a → P i a
  | 0, _ => ⟨[], rfl, fun i a h => by simp at h⟩
  | n + 1, h => by
    obtain ⟨xs, hl, hp⟩ := list_of P n fun i hi => h i (by omega)
    obtain ⟨a, ha⟩ := h n (by omega)
    refine ⟨xs ++ [a], by simp [hl], fun i b hb => ?_⟩
    rw [List.getElem?_append] at hb
    split at hb
    · exact hp i b hb
    · rename_i hge
      have e : i = n := by
        have := (List.getElem?_eq_some_iff.1 hb).1
        simp at this
        omega
      subst e
      rw [hl, Nat.sub_self] at hb
      simp at hb
      subst hb
      exact ha

theorem weightsAll_mem {H : Type} {P : Program} {e : TypeId} {d : DataW H} {q : Nat} : ∀ {l : List (DataW H)}, d ∈ l → q ∈ d.weights P e → q ∈ DataW.weightsAll P e l
  | x :: r, hd, hq => by
    simp only [DataW.weightsAll, List.mem_append]
    rcases List.mem_cons.1 hd with rfl | hd
    · exact .inl hq
    · exact .inr (weightsAll_mem hd hq)

theorem opens_slice {R : Nat} {α : Type} {P : Program} {κ : Kd α} {t e : TypeId} {G : α → Prop} (ht : P.underlying t = some (.slice e)) (hc : P.cellsOf e = κ.sz) {B : Nat} (hB : P.bytesOf e = B) (he : Opens R P κ e G) :
    Opens R P (Kd.slice e κ) t (fun xs => xs.length * B ≤ R ∧ ∀ x ∈ xs, G x) := by
  intro H enc w base spare held fuel cs x hx hw
  rcases Go.Deep.open_slice ht hx with ⟨rfl, _⟩ | ⟨a, len, cap, m, n, D, Pl, rfl, hb, hl, hm, hmm, rfl, hi⟩
  · refine ⟨[], ⟨none, 0, rfl, Nat.le_refl _, rfl, by simp, fun h => absurd h (by simp)⟩, by simp, fun x hx => by cases hx⟩
  · have hlm : len ≤ m := by rw [hmm]; split <;> omega
    obtain ⟨xs, hxl, hxs⟩ := list_of (fun i (b : α) => ∃ cs', w.cells? base (a.add (i * κ.sz)) κ.sz = some cs' ∧ κ.K w b cs' ∧ G b) len (by
      intro i hi'
      obtain ⟨cs', h1, h2⟩ := hi i (by omega)
      obtain ⟨b, h3, h4⟩ := he enc w base spare held n cs' _ h2 (fun q hq => hw q (by
        simp only [DataW.weights, ht, List.mem_cons, List.mem_append]
        refine .inr (.inl ?_)
        exact weightsAll_mem (List.mem_map.2 ⟨i, List.mem_range.2 hi', rfl⟩) hq))
      rw [hc] at h1
      exact ⟨b, cs', h1, h3, h4⟩)
    refine ⟨xs, ⟨some a, cap, by rw [hxl], by omega, rfl, by unfold maxLen at hm; omega, fun _ => ⟨a, rfl, fun j p hj => ?_⟩⟩, by
      have z := hw ((len + (m - len)) * B) (by simp only [DataW.weights, ht, hB, List.length_map, List.length_range]; exact List.mem_cons_self)
      have := Nat.mul_le_mul_right B (show len ≤ len + (m - len) by omega)
      rw [hxl]
      exact Nat.le_trans this z, fun x hx => ?_⟩
    · obtain ⟨cs', h1, h2, _⟩ := hxs j p hj
      obtain ⟨_, hcl, hat⟩ := World.cells?_some h1
      refine ⟨cs', hcl, h2, fun i u hu => ?_⟩
      have hil : i < cs'.length := (List.getElem?_eq_some_iff.1 hu).1
      have hcell := hat i (by omega)
      rw [← hu, ← hcell, ← Go.Deep.add_add]
    · obtain ⟨i, hi', rfl⟩ := List.getElem_of_mem hx
      obtain ⟨_, _, _, h⟩ := hxs i _ (List.getElem?_eq_getElem hi')
      exact h

/-- fields in line -/
theorem pair_suffix {α β : Type} {a : Kd α} {b : Kd β} {w : World} {x : α} {y : β} {cs : List Value} {off s : Nat} (h0 : a.K w x ((cs.drop off).take s)) (h1 : b.K w y (cs.drop (off + s))) : (Kd.pair a b).K w (x, y) (cs.drop off) :=
  ⟨_, _, by rw [← List.drop_drop, List.take_append_drop], h0, h1⟩
theorem last_suffix {α : Type} {a : Kd α} {w : World} {x : α} {cs : List Value} {off s : Nat} (hl : cs.length = off + s) (h0 : a.K w x ((cs.drop off).take s)) : a.K w x (cs.drop off) := by
  rwa [List.take_of_length_le (by rw [List.length_drop]; omega)] at h0

end Go.Proofs.YtmeopdjdjmjngaaGreatDoor
