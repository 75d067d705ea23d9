/- For a statement with a bound on the bulk: what a datum weighs is at most so many times its bulk; the witness. No conditions beyond each theorem's own. -/
import Derived.Test.YtmeopdjdjmjngaaGreatDoorRows
import Derived.Deep.DeepHandedRow
import Derived.RowKit
import Derived.KernelRfl
namespace Go.Proofs.YtmeopdjdjmjngaaGreatDoor
open Go.RowKit

theorem bulk_one {H : Type} (d : DataW H) : 1 ≤ Rows.uptoBulk d := by
  cases d with
  | lit l => cases l <;> simp [Rows.uptoBulk]
  | _ => simp [Rows.uptoBulk]
theorem bulk_part {H : Type} {d : DataW H} : ∀ {l : List (DataW H)}, d ∈ l → Rows.uptoBulk d ≤ Rows.uptoBulkAll l
  | x :: r, h => by
    simp only [Rows.uptoBulkAll]
    rcases List.mem_cons.1 h with rfl | h
    · omega
    · have := bulk_part h; omega
theorem bulk_len {H : Type} : ∀ l : List (DataW H), l.length ≤ Rows.uptoBulkAll l
  | [] => by simp [Rows.uptoBulkAll]
  | x :: r => by have := bulk_one x; have := bulk_len r; simp only [Rows.uptoBulkAll, List.length_cons]; omega
theorem bulk_bound {H : Type} {l : List (DataW H)} (hk : Rows.uptoSmall H l = true) : Rows.uptoBulkAll l ≤ 1048576 := of_decide_eq_true hk

/-- what a datum of the type weighs is at most K times its bulk -/
def Light (K : Nat) (P : Program) (t : TypeId) : Prop := ∀ {H : Type} (d : DataW H) (q : Nat), q ∈ d.weights P t → q ≤ K * Rows.uptoBulk d
theorem light_lit {K : Nat} (hK : 1 ≤ K) {H : Type} {P : Program} {t : TypeId} (l : Lit) (q : Nat) (h : q ∈ (DataW.lit (H := H) l).weights P t) : q ≤ K * Rows.uptoBulk (DataW.lit (H := H) l) := by
  cases l with
  | string b =>
    simp only [DataW.weights, List.mem_singleton] at h
    subst h
    simp only [Rows.uptoBulk]
    have := Nat.mul_le_mul_right (b.length + 1) hK
    omega
  | _ => simp [DataW.weights] at h
theorem light_int {K : Nat} {P : Program} {t : TypeId} {k : IntKind} (hK : 1 ≤ K) (h : P.underlying t = some (.int k)) : Light K P t := by
  intro H d q hq
  cases d with
  | lit l => exact light_lit hK l q hq
  | _ => simp [DataW.weights, h] at hq
theorem light_bool {K : Nat} {P : Program} {t : TypeId} (hK : 1 ≤ K) (h : P.underlying t = some .bool) : Light K P t := by
  intro H d q hq
  cases d with
  | lit l => exact light_lit hK l q hq
  | _ => simp [DataW.weights, h] at hq
theorem light_string {K : Nat} {P : Program} {t : TypeId} (hK : 1 ≤ K) (h : P.underlying t = some .string) : Light K P t := by
  intro H d q hq
  cases d with
  | lit l => exact light_lit hK l q hq
  | _ => simp [DataW.weights, h] at hq
theorem light_all {K : Nat} {P : Program} {e : TypeId} (he : Light K P e) {H : Type} : ∀ (l : List (DataW H)) (q : Nat), q ∈ DataW.weightsAll P e l → q ≤ K * Rows.uptoBulkAll l
  | x :: r, q, h => by
    simp only [DataW.weightsAll, List.mem_append] at h
    simp only [Rows.uptoBulkAll, Nat.mul_add]
    rcases h with h | h
    · have := he x q h; omega
    · have := light_all he r q h; omega
theorem light_slice {K B : Nat} {P : Program} {t e : TypeId} (hK : 1 ≤ K) (ht : P.underlying t = some (.slice e)) (hB : P.bytesOf e = B) (hBK : B ≤ K) (he : Light K P e) : Light K P t := by
  intro H d q hq
  cases d with
  | lit l => exact light_lit hK l q hq
  | slice elems spare =>
    simp only [DataW.weights, ht, hB, List.mem_cons, List.mem_append] at hq
    simp only [Rows.uptoBulk, Nat.mul_add]
    have h1 := bulk_len elems
    have h2 := bulk_len spare
    rcases hq with rfl | hq | hq
    · have h3 := Nat.mul_le_mul (show elems.length + spare.length ≤ Rows.uptoBulkAll elems + Rows.uptoBulkAll spare by omega) hBK
      rw [Nat.mul_comm _ K, Nat.mul_add] at h3
      omega
    · have := light_all he elems q hq; omega
    · have := light_all he spare q hq; omega
  | _ => simp [DataW.weights, ht] at hq
theorem light_each {K : Nat} {P : Program} {H : Type} : ∀ (ts : List TypeId) (l : List (DataW H)) (q : Nat), (∀ t ∈ ts, Light K P t) → q ∈ DataW.weightsEach P ts l → q ≤ K * Rows.uptoBulkAll l
  | [], _, q, _, h => by simp [DataW.weightsEach] at h
  | _ :: _, [], q, _, h => by simp [DataW.weightsEach] at h
  | t :: ts, x :: r, q, ht, h => by
    simp only [DataW.weightsEach, List.mem_append] at h
    simp only [Rows.uptoBulkAll, Nat.mul_add]
    rcases h with h | h
    · have := ht t (List.mem_cons_self ..) x q h; omega
    · have := light_each ts r q (fun u hu => ht u (List.mem_cons_of_mem _ hu)) h; omega
theorem light_struct {K : Nat} {P : Program} {t : TypeId} {fs : Array Field} (hK : 1 ≤ K) (ht : P.underlying t = some (.struct fs)) (hf : ∀ u ∈ fs.toList.map (·.type), Light K P u) : Light K P t := by
  intro H d q hq
  cases d with
  | lit l => exact light_lit hK l q hq
  | agg parts =>
    simp only [DataW.weights, ht] at hq
    simp only [Rows.uptoBulk, Nat.mul_add]
    have := light_each _ parts q hf hq
    omega
  | _ => simp [DataW.weights, ht] at hq

theorem witness_upto {H : Type} {enc : TypeId × Value → H} {C : Checked} {os : Os} {f : FuncId} {fn : Func} {s : OpenSpec} {conds : List PathCond} {apart : Bool} {laid : List (String × DataW Unit)} (w0 : World) (args : Array Value) (hos : w0.os = os)
    (hsh : (w0.forCall (fun _ _ => 0) ⟨#[], args, []⟩).Shaped C.prog)
    (hok : Input.okWideB C.prog (w0.forCall (fun _ _ => 0) ⟨#[], args, []⟩) f ⟨#[], args, []⟩ = true)
    (hrow : s.preRow enc C.prog fn conds apart laid (w0.forCall (fun _ _ => 0) ⟨#[], args, []⟩).memory args) :
    ∃ (w : World) (tape : Tape) (i : Input), w.os = os ∧ (w.forCall tape i).Shaped C.prog ∧ i.vars = [] ∧ Input.okWide C.prog (w.forCall tape i) .any w.heap.size f i ∧
      s.preRow enc C.prog fn conds apart laid (w.forCall tape i).memory i.args ∧ ({} : Assume).holds C.prog (lone (Frame.enter C.prog f i.args .normal) [] (w.forCall tape i)) :=
  ⟨w0, fun _ _ => 0, ⟨#[], args, []⟩, hos, hsh, (Input.okWide_of_okWideB (base := 0) hok).1, (Input.okWide_of_okWideB hok).2, hrow, by
    simp only [Assume.holds]
    exact ⟨by simp, by simp, by simp, by simp, by simp, by simp⟩⟩
end Go.Proofs.YtmeopdjdjmjngaaGreatDoor
