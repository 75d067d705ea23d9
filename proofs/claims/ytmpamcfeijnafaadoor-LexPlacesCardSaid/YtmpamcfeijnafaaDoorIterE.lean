/- A range over a function whose iterator ranges over another one, where the body's own rows may grow: what a round keeps is said of a band of blocks. -/
import Derived.Test.YtmpamcfeijnafaaDoorIter
namespace Go.Proofs.YtmpamcfeijnafaaDoor.Iter
open Go.RowKit
/-- What lies in the blocks from B up to E, and what is no cells at B or behind it, lies as it lay. -/
structure KeepsE (B E : Nat) (W W' : World) : Prop where
  size : W.heap.size ≤ W'.heap.size
  same : ∀ (k : Nat) (o : Obj), B ≤ k → W.heap[k]? = some o → k < E ∨ o.isCells = false → W'.heap[k]? = some o
theorem KeepsE.refl (B E : Nat) (W : World) : KeepsE B E W W := ⟨Nat.le_refl _, fun _ _ _ h _ => h⟩
theorem KeepsE.trans {B E : Nat} {X Y Z : World} (h : KeepsE B E X Y) (k : KeepsE B E Y Z) : KeepsE B E X Z :=
  ⟨Nat.le_trans h.size k.size, fun i o hb hi he => k.same i o hb (h.same i o hb hi he) he⟩
theorem KeepsE.mono {B B' E : Nat} {X Y : World} (h : KeepsE B E X Y) (hB : B ≤ B') : KeepsE B' E X Y := ⟨h.size, fun i o hb hi => h.same i o (by omega) hi⟩
theorem KeepsE.alloc (B E : Nat) (W : World) (o : Obj) : KeepsE B E W (W.alloc o) :=
  ⟨by simp, fun k o' _ hk _ => (Below.heap_alloc W o k (Array.getElem?_eq_some_iff.1 hk).1).trans hk⟩
theorem KeepsE.of_below {B E : Nat} {W W' : World} (h : Below W.heap.size W W') : KeepsE B E W W' :=
  ⟨h.size, fun k o _ hk _ => (h.block k (Array.getElem?_eq_some_iff.1 hk).1).trans hk⟩
theorem KeepsE.putObj {B E : Nat} (W : World) {l : Nat} (o : Obj) (hl : l < B) : KeepsE B E W (W.putObj l o) :=
  ⟨by simp, fun k o' hb hk _ => (World.putObj_heap_other (by omega)).trans hk⟩
theorem KeepsE.setCell {B E : Nat} (W : World) {p : Addr} (v : Value) (hl : p.block < B) : KeepsE B E W (W.setCell p v) :=
  ⟨(KeepsOthers.setCell W p v).size, fun k o' hb hk _ => (Below.heap_setCell W p v k (by omega)).trans hk⟩
theorem KeepsE.drewN (B E : Nat) (W : World) (m : Nat) : KeepsE B E W (W.drewN m) := ⟨Nat.le_refl _, fun _ _ _ h _ => h⟩
theorem KeepsE.grown {B E : Nat} {W W' : World} {row : Option Nat} (h : W.grownBy W' row) (hr : ∀ r, row = some r → (E ≤ r ∨ r < B) ∧ ∃ o : Obj, W.heap[r]? = some o ∧ o.isCells = true) : KeepsE B E W W' :=
  ⟨h.size, fun k o hb hk he => (h.block k (Array.getElem?_eq_some_iff.1 hk).1 (fun e => by
    obtain ⟨h1, o', h2, h3⟩ := hr k e.symm
    rw [hk] at h2
    cases h2
    rcases he with he | he
    · rcases h1 with h1 | h1 <;> omega
    · rw [h3] at he; cases he)).trans hk⟩
theorem KeepsE.from {B E : Nat} {X Y : World} (h : KeepsE B E X Y) : KeepsFrom B X Y := ⟨h.size, fun k o hb hk hc => h.same k o hb hk (.inr hc)⟩
/-- The cells in the blocks from B up to E lie as they lay. -/
structure CellsE (B E : Nat) (W W' : World) : Prop where
  size : W.heap.size ≤ W'.heap.size
  same : ∀ (k : Nat) (o : Obj), B ≤ k → k < E → W.heap[k]? = some o → o.isCells = true → W'.heap[k]? = some o
theorem CellsE.refl (B E : Nat) (W : World) : CellsE B E W W := ⟨Nat.le_refl _, fun _ _ _ _ h _ => h⟩
theorem CellsE.trans {B E : Nat} {X Y Z : World} (h : CellsE B E X Y) (k : CellsE B E Y Z) : CellsE B E X Z :=
  ⟨Nat.le_trans h.size k.size, fun i o hb he hi ho => k.same i o hb he (h.same i o hb he hi ho) ho⟩
theorem KeepsE.cells {B E : Nat} {X Y : World} (h : KeepsE B E X Y) : CellsE B E X Y := ⟨h.size, fun k o hb he hk _ => h.same k o hb hk (.inl he)⟩
theorem CellsE.putObj {B E : Nat} {W : World} {l : Nat} {o : Obj} (o' : Obj) (h : W.heap[l]? = some o) (ho : o.isCells = false) : CellsE B E W (W.putObj l o') :=
  ⟨by simp, fun k q _ _ hk hq => by
    by_cases e : k = l
    · subst e; rw [h] at hk; cases hk; rw [ho] at hq; cases hq
    · exact (World.putObj_heap_other e).trans hk⟩

/-- THE ITERATOR's CONTRACT: it goes through xs, or through a beginning of it; each round keeps what the iterator has laid. -/
def SeqE {α : Type} (P : Program) (g : Nat) (lb : Array Value) (encs : α → Array Value) (xs : List α) (w : World) : Prop :=
  ∀ (l : Nat) (J : Nat → List α → World → Prop) (Jx : List α → World → Prop) (W : World), Below w.heap.size w W → (∀ E, OwnFrom W.heap.size (J E)) → OwnFrom W.heap.size Jx →
    (∀ E pre x W1, W.heap.size ≤ E → E ≤ W1.heap.size → J E pre W1 → pre.length < xs.length → YieldAt Fence.wide 0 P l (encs x) W1 fun e W' =>
      ((e = .returned (.bool true) ∧ J E (pre ++ [x]) W') ∨ (e = .returned (.bool false) ∧ Jx (pre ++ [x]) W')) ∧ KeepsE W.heap.size E W1 W') →
    (∀ E, J E [] W) →
    Calls P g (#[.func (.yield l) #[] #[]] ++ lb) W fun e W' => (∃ v, e = .returned v) ∧ ((∃ E, J E xs W') ∨ ∃ pre, pre <+: xs ∧ Jx pre W')

/-- How a round's body may be left. -/
def upPostE {α : Type} (B E : Nat) (I : List α → World → Prop) (Ix : Code → List α → World → Prop) (xs : List α) (W : World) : Exit → Act → World → Prop
  | .normal, _, W' => KeepsE B E W W' ∧ I xs W'
  | .ret, _, W' => KeepsE B E W W' ∧ Ix .ret xs W'
  | .exit id, _, W' => KeepsE B E W W' ∧ Ix (.exit id) xs W'
  | .goto t, _, W' => KeepsE B E W W' ∧ Ix (.goto t) xs W'
  | .panic _, _, _ => False
  | .outgrown, _, _ => False

/-- THE LOOP OVER SUCH AN ITERATOR. -/
theorem rangeE {α : Type} {P : Program} {n : Nat} {g : Operand} {ps : Array Tmp} {assign body : Code} {Q : Exit → Act → World → Prop} {a : Act} {w : World}
    {gf : Nat} {lb : Array Value} (hg : a.eval g = .func (.func gf) #[] lb) (eg : ∀ args w, (callFunc gf args).run P w = .ok (.enter gf args) w)
    {encs : α → Array Value} {xs : List α} {w0 : World} (hseq : SeqE P gf lb encs xs w0) (hb0 : Below w0.heap.size w0 w) (hps : ∀ x, (encs x).size = ps.size)
    (I : Nat → List α → World → Prop) (Ix : Code → List α → World → Prop) (hI : ∀ E, OwnFrom w.heap.size (I E)) (hIx : ∀ c, OwnFrom w.heap.size (Ix c)) (h0 : ∀ E, I E [] w)
    (Ax : α → Act → World → Prop) (hAx : ∀ x a', OwnFrom w.heap.size (fun (_ : Unit) W => Ax x a' W))
    (hassign : ∀ (E l : Nat) (pre : List α) (x : α) (W : World) (K : Act → World → Prop), I E pre W → (∀ a' W', KeepsE w.heap.size E W W' → I E pre W' → Ax x a' W' → K a' W') →
      assign.wpIn (Fence.wide.inRound l) n P (Exit.then K (fun _ _ _ => False)) { tmps := (ps.zip (encs x)).foldl (fun t (p, v) => t.setIfInBounds p v) a.tmps, defers := [] } W)
    (hbody : ∀ (E l : Nat) (pre : List α) (x : α) (a' : Act) (W : World), w.heap.size ≤ l → w.heap.size ≤ E → E ≤ W.heap.size → I E pre W → Ax x a' W → pre.length < xs.length →
      body.wpIn (Fence.wide.inRound l) n P (upPostE w.heap.size E (I E) Ix (pre ++ [x]) W) a' W)
    (hdone : ∀ (E D : Nat) (W : World), w.heap.size ≤ D → I E xs W → W.heap[D]? = some (.deferred (some [])) → Q .normal { a with defers := { target := .collected D, args := #[] } :: a.defers } W)
    (hstop : ∀ (D : Nat) (c : Code) (pre : List α) (W : World), w.heap.size ≤ D → pre <+: xs → Ix c pre W → W.heap[D]? = some (.deferred (some [])) →
      c.wpIn Fence.wide n P Q { a with defers := { target := .collected D, args := #[] } :: a.defers } W) :
    (Code.rangeFunc g ps assign body).wpIn Fence.wide n P Q a w := by
  refine wpIn_rangeFunc ?_
  intro fn hfn
  obtain ⟨rc, hrc⟩ : ∃ rc : LoopState → Option Code → Loop, rc = fun st pe => { state := st, pending := pe, fn, tmps := a.tmps, params := ps, assign, body, defers := w.heap.size } := ⟨_, rfl⟩
  have hrun := run_enterLoop_outer (P := P) (w := w) fn a.tmps ps assign body
  obtain ⟨W1, hW1⟩ : ∃ W1, (w.alloc (.deferred (some []))).alloc (.loop (rc .ready none)) = W1 := ⟨_, rfl⟩
  have hs1 : W1.heap.size = w.heap.size + 2 := by rw [← hW1]; simp
  have hrec1 : W1.heap[w.heap.size + 1]? = some (.loop (rc .ready none)) := by
    have := World.alloc_heap_new (w.alloc (.deferred (some []))) (.loop (rc .ready none))
    rw [hW1] at this
    simpa using this
  have hdef1 : W1.heap[w.heap.size]? = some (.deferred (some [])) := by
    rw [← hW1]
    exact (Below.heap_alloc _ _ _ (by simp)).trans (World.alloc_heap_new w _)
  have hI1 : ∀ E, I E [] W1 := fun E => by rw [← hW1]; exact (hI E).alloc _ ((hI E).alloc _ (h0 E))
  have hB1 : Below w0.heap.size w0 W1 := by
    rw [← hW1]
    exact hb0.trans ((((Below.refl _ w).alloc (Nat.le_refl _) _).alloc (by simp) _).mono hb0.size)
  refine ⟨w.heap.size + 1, [{ target := .collected w.heap.size, args := #[] }], W1, { target := .fn (.func gf) lb, args := #[.func (.yield (w.heap.size + 1)) #[] #[]] }, W1, gf,
    #[.func (.yield (w.heap.size + 1)) #[] #[]] ++ lb, W1, ?_, ?_, fun _ _ => trivial, ?_, fun h => (by cases h), ?_⟩
  · rw [← hW1, hrc]; exact hrun
  · simp only [resolve, hg]
    simp [go_sem]
  · simp [invoke, go_sem, eg]
  refine (callsIn_wide.2 (hseq (w.heap.size + 1)
    (fun E pre W => I E pre W ∧ W.heap[w.heap.size + 1]? = some (.loop (rc .ready none)) ∧ W.heap[w.heap.size]? = some (.deferred (some [])))
    (fun pre W => ∃ c, Ix c pre W ∧ W.heap[w.heap.size + 1]? = some (.loop (rc .done (some c))) ∧ W.heap[w.heap.size]? = some (.deferred (some [])))
    W1 hB1 ?_ ?_ ?_ (fun E => ⟨hI1 E, hrec1, hdef1⟩))).mono ?_
  · rintro E s X Y row ⟨h1, h2, h3⟩ hgr hr
    exact ⟨hI E s X Y row h1 hgr (fun r e => ⟨by have := (hr r e).1; omega, (hr r e).2⟩), (hgr.block _ (Array.getElem?_eq_some_iff.1 h2).1 (fun e => by have := (hr _ e.symm).1; omega)).trans h2,
      (hgr.block _ (Array.getElem?_eq_some_iff.1 h3).1 (fun e => by have := (hr _ e.symm).1; omega)).trans h3⟩
  · rintro s X Y row ⟨c, h1, h2, h3⟩ hgr hr
    exact ⟨c, hIx c s X Y row h1 hgr (fun r e => ⟨by have := (hr r e).1; omega, (hr r e).2⟩), (hgr.block _ (Array.getElem?_eq_some_iff.1 h2).1 (fun e => by have := (hr _ e.symm).1; omega)).trans h2,
      (hgr.block _ (Array.getElem?_eq_some_iff.1 h3).1 (fun e => by have := (hr _ e.symm).1; omega)).trans h3⟩
  · -- a round
    rintro E pre x W hE1 hE2 ⟨hi, hl, hd⟩ hlen
    have hy := run_yield (P := P) (args := encs x) hl (by rw [hrc]; exact hps x)
    rw [hrc] at hy
    refine yield_any (m := n) ⟨fn, _, _, _, hy, ?_⟩
    refine roundIn_of_wpIn hfn (hassign E (w.heap.size + 1) pre x W _ hi ?_)
    intro a' W2 hk2 hi2 hx2
    have hl2 := hk2.same _ _ (by omega) hl (.inr rfl)
    have hd2 := hk2.same _ _ (Nat.le_refl _) hd (.inr rfl)
    have hlt2 : w.heap.size + 1 < W2.heap.size := (Array.getElem?_eq_some_iff.1 hl2).1
    refine ⟨_, run_beginRound hl2 (by rw [hrc]), ?_⟩
    obtain ⟨W3, hW3⟩ : ∃ W3, W2.putObj (w.heap.size + 1) (.loop { rc .ready none with state := .busy }) = W3 := ⟨_, rfl⟩
    have hl3 : W3.heap[w.heap.size + 1]? = some (.loop { rc .ready none with state := .busy }) := by rw [← hW3]; exact World.putObj_heap_same hlt2
    have hd3 : W3.heap[w.heap.size]? = some (.deferred (some [])) := by rw [← hW3]; exact (World.putObj_heap_other (by omega)).trans hd2
    have hi3 : I E pre W3 := by rw [← hW3]; exact (hI E).putObj _ hi2 (by omega) hl2 rfl
    have hx3 : Ax x a' W3 := by rw [← hW3]; exact (hAx x a').putObj (s := ()) _ hx2 (by omega) hl2 rfl
    have hk3 : KeepsE W1.heap.size E W W3 := by rw [← hW3]; exact (hk2.mono (by omega)).trans (KeepsE.putObj _ _ (by omega))
    have hE3 : E ≤ W3.heap.size := Nat.le_trans hE2 hk3.size
    rw [hW3]
    refine wpIn_mono (hbody E (w.heap.size + 1) pre x a' W3 (by omega) (by omega) hE3 hi3 hx3 hlen) ?_
    have fin : ∀ (jump : Option Code) (W4 : World), KeepsE w.heap.size E W3 W4 → ∃ W5, W4.putObj (w.heap.size + 1) (.loop (rc (if jump.isNone then .ready else .done) jump)) = W5 ∧
        (Instr.endRound (w.heap.size + 1) jump).run P W4 = .ok (.bool jump.isNone) W5 ∧ W4.heap[w.heap.size + 1]? = some (.loop { rc .ready none with state := .busy }) ∧
        W5.heap[w.heap.size + 1]? = some (.loop (rc (if jump.isNone then .ready else .done) jump)) ∧ W5.heap[w.heap.size]? = some (.deferred (some [])) ∧ KeepsE W1.heap.size E W W5 := fun jump W4 hk4 => by
      have hl4 := hk4.same _ _ (by omega) hl3 (.inr rfl)
      have he := run_endRound (P := P) jump hl4
      refine ⟨_, rfl, ?_, hl4, World.putObj_heap_same (Array.getElem?_eq_some_iff.1 hl4).1, (World.putObj_heap_other (by omega)).trans (hk4.same _ _ (Nat.le_refl _) hd3 (.inr rfl)), hk3.trans ((hk4.mono (by omega)).trans (KeepsE.putObj _ _ (by omega)))⟩
      rw [hrc] at he ⊢
      exact he
    rintro e a4 W4 hp
    cases e with
    | normal =>
      obtain ⟨hk4, hi4⟩ := hp
      obtain ⟨W5, e5, hr5, hb5, hl5, hd5, hk5⟩ := fin none W4 hk4
      exact ⟨_, _, hr5, .inl ⟨rfl, by rw [← e5]; exact (hI E).putObj _ hi4 (by omega) hb5 rfl, hl5, hd5⟩, hk5⟩
    | ret =>
      obtain ⟨hk4, hi4⟩ := hp
      obtain ⟨W5, e5, hr5, hb5, hl5, hd5, hk5⟩ := fin (some .ret) W4 hk4
      exact ⟨_, _, hr5, .inr ⟨rfl, .ret, by rw [← e5]; exact (hIx _).putObj _ hi4 (by omega) hb5 rfl, hl5, hd5⟩, hk5⟩
    | exit id =>
      obtain ⟨hk4, hi4⟩ := hp
      obtain ⟨W5, e5, hr5, hb5, hl5, hd5, hk5⟩ := fin (some (.exit id)) W4 hk4
      exact ⟨_, _, hr5, .inr ⟨rfl, .exit id, by rw [← e5]; exact (hIx _).putObj _ hi4 (by omega) hb5 rfl, hl5, hd5⟩, hk5⟩
    | goto t =>
      obtain ⟨hk4, hi4⟩ := hp
      obtain ⟨W5, e5, hr5, hb5, hl5, hd5, hk5⟩ := fin (some (.goto t)) W4 hk4
      exact ⟨_, _, hr5, .inr ⟨rfl, .goto t, by rw [← e5]; exact (hIx _).putObj _ hi4 (by omega) hb5 rfl, hl5, hd5⟩, hk5⟩
    | panic ch => exact hp.elim
    | outgrown => exact hp.elim
  · -- behind the iterator
    rintro e W2 ⟨⟨v, rfl⟩, ⟨E, hi, hl, hd⟩ | ⟨pre, hpre, c, hi, hl, hd⟩⟩
    · have he := run_endLoop (P := P) hl (by rw [hrc]; simp)
      rw [hrc] at he
      refine ⟨none, _, he, hdone E _ _ (Nat.le_refl _) ((hI E).putObj _ hi (by omega) hl rfl) ((World.putObj_heap_other (by omega)).trans hd)⟩
    · have he := run_endLoop (P := P) hl (by rw [hrc]; simp)
      rw [hrc] at he
      refine ⟨some c, _, he, hstop _ c pre _ (Nat.le_refl _) hpre ((hIx c).putObj _ hi (by omega) hl rfl) ((World.putObj_heap_other (by omega)).trans hd)⟩

end Go.Proofs.YtmpamcfeijnafaaDoor.Iter
