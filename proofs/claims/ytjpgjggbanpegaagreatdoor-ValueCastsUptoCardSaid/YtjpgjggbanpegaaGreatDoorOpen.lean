/- A datum that is read of the world, as a Lean value: for each kind of values, and what its numbers and lengths are bounded by. No conditions beyond each theorem's own. -/
import Derived.Test.YtjpgjggbanpegaaGreatDoorProg
import Derived.Test.YtjpgjggbanpegaaGreatDoorVE
import Derived.Deep.Slices
import Derived.Deep.Fields
import Derived.ChangeArms
import Derived.ChangeSame
import Derived.SizedLaws
import Derived.KernelRfl
namespace Go.Proofs.YtjpgjggbanpegaaGreatDoor
open Go.RowKit Go.Proofs.YtjpgjggbanpegaaGreatDoorW.PrintWords Go.ChangeShapes Go.WideShapes

/-- What reads as a datum of type t is of this kind, and its value is good. -/
def Opens {α : Type} (R : Nat) (P : Program) (κ : Kd α) (t : TypeId) (G : α → Prop) : Prop :=
  ∀ {H : Type} (enc : TypeId × Value → H) (w : World) (base : Nat) (spare : Nat → Bool) (held : Bool) (fuel : Nat) (cs : List Value) (x : DataW H × List MemPlace),
    DataW.trod enc P w base spare held fuel t cs = some x → (∀ n ∈ x.1.weights P t, n ≤ R) → ∃ a : α, κ.K w a cs ∧ G a

theorem opens_int {R : Nat} {P : Program} {t : TypeId} {k : IntKind} (h : P.underlying t = some (.int k)) : Opens R P (Kd.int k) t (fun n => (Lit.int k n).wf = true) := by
  intro H enc w base spare held fuel cs x hx hw
  obtain ⟨n, rfl, _, hk⟩ := DataW.trod_int h hx
  exact ⟨n, rfl, hk⟩
theorem opens_bool {R : Nat} {P : Program} {t : TypeId} (h : P.underlying t = some .bool) : Opens R P Kd.bool t (fun _ => True) := by
  intro H enc w base spare held fuel cs x hx hw
  obtain ⟨b, rfl, _⟩ := DataW.trod_bool h hx
  exact ⟨b, rfl, trivial⟩
theorem opens_string {R : Nat} {P : Program} {t : TypeId} (h : P.underlying t = some .string) : Opens R P Kd.string t (fun s => s.size ≤ R) := by
  intro H enc w base spare held fuel cs x hx hw
  obtain ⟨s, rfl, rfl, _⟩ := DataW.trod_string h hx
  have z := hw s.data.toList.length (by simp [DataW.weights])
  rw [Array.length_toList] at z
  exact ⟨s, rfl, z⟩

/-- fields in line -/
theorem pair_suffix {α β : Type} {a : Kd α} {b : Kd β} {w : World} {x : α} {y : β} {cs : List Value} {off s : Nat} (h0 : a.K w x ((cs.drop off).take s)) (h1 : b.K w y (cs.drop (off + s))) : (Kd.pair a b).K w (x, y) (cs.drop off) :=
  ⟨_, _, by rw [← List.drop_drop, List.take_append_drop], h0, h1⟩
theorem last_suffix {α : Type} {a : Kd α} {w : World} {x : α} {cs : List Value} {off s : Nat} (hl : cs.length = off + s) (h0 : a.K w x ((cs.drop off).take s)) : a.K w x (cs.drop off) := by
  rwa [List.take_of_length_le (by rw [List.length_drop]; omega)] at h0

end Go.Proofs.YtjpgjggbanpegaaGreatDoor
