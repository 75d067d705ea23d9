/- A range over a function whose iterator ranges over another one: what a round keeps is said from a block on (what lies there lies as it lay), at the wide fence. -/
import Derived.RangeFuncNested
import Derived.RangeFuncBound
import Derived.RangeFuncCalls
import Derived.RangeFuncLeaves
import Derived.Shelf.Abstract
import Derived.Shelf.RegionOpen
import Derived.WalkKit
import Derived.OwnWalkIn
import Derived.TacticsInMore
import Derived.LoopNIn
import Derived.LoopIn
import Derived.Sort.QuietIn
namespace Go.Proofs.YtmpamcfeijnafaaDoor.Iter
open Go.RowKit

/-- What lies at block B or behind it lies as it lay. -/
structure KeepsUp (B : Nat) (W W' : World) : Prop where
  size : W.heap.size ≤ W'.heap.size
  same : ∀ (k : Nat) (o : Obj), B ≤ k → W.heap[k]? = some o → W'.heap[k]? = some o
theorem KeepsUp.refl (B : Nat) (W : World) : KeepsUp B W W := ⟨Nat.le_refl _, fun _ _ _ h => h⟩
theorem KeepsUp.trans {B : Nat} {X Y Z : World} (h : KeepsUp B X Y) (k : KeepsUp B Y Z) : KeepsUp B X Z :=
  ⟨Nat.le_trans h.size k.size, fun i o hb hi => k.same i o hb (h.same i o hb hi)⟩
theorem KeepsUp.mono {B B' : Nat} {X Y : World} (h : KeepsUp B X Y) (hB : B ≤ B') : KeepsUp B' X Y := ⟨h.size, fun i o hb hi => h.same i o (by omega) hi⟩
theorem KeepsUp.alloc (B : Nat) (W : World) (o : Obj) : KeepsUp B W (W.alloc o) :=
  ⟨by simp, fun k o' _ hk => (Below.heap_alloc W o k (Array.getElem?_eq_some_iff.1 hk).1).trans hk⟩
theorem KeepsUp.of_below {B : Nat} {W W' : World} (h : Below W.heap.size W W') : KeepsUp B W W' :=
  ⟨h.size, fun k o _ hk => (h.block k (Array.getElem?_eq_some_iff.1 hk).1).trans hk⟩
theorem KeepsUp.putObj {B : Nat} (W : World) {l : Nat} (o : Obj) (hl : l < B) : KeepsUp B W (W.putObj l o) :=
  ⟨by simp, fun k o' hb hk => (World.putObj_heap_other (by omega)).trans hk⟩
theorem KeepsUp.setCell {B : Nat} (W : World) {p : Addr} (v : Value) (hl : p.block < B) : KeepsUp B W (W.setCell p v) :=
  ⟨(KeepsOthers.setCell W p v).size, fun k o' hb hk => (Below.heap_setCell W p v k (by omega)).trans hk⟩
theorem KeepsUp.from {B : Nat} {X Y : World} (h : KeepsUp B X Y) : KeepsFrom B X Y := ⟨h.size, fun k o hb hk _ => h.same k o hb hk⟩

/-- The cells that lie at block B or behind it lie as they lay. -/
structure CellsUp (B : Nat) (W W' : World) : Prop where
  size : W.heap.size ≤ W'.heap.size
  same : ∀ (k : Nat) (o : Obj), B ≤ k → W.heap[k]? = some o → o.isCells = true → W'.heap[k]? = some o
theorem CellsUp.refl (B : Nat) (W : World) : CellsUp B W W := ⟨Nat.le_refl _, fun _ _ _ h _ => h⟩
theorem CellsUp.trans {B : Nat} {X Y Z : World} (h : CellsUp B X Y) (k : CellsUp B Y Z) : CellsUp B X Z :=
  ⟨Nat.le_trans h.size k.size, fun i o hb hi ho => k.same i o hb (h.same i o hb hi ho) ho⟩
theorem KeepsUp.cells {B : Nat} {X Y : World} (h : KeepsUp B X Y) : CellsUp B X Y := ⟨h.size, fun k o hb hk _ => h.same k o hb hk⟩
theorem CellsUp.putObj {B : Nat} {W : World} {l : Nat} {o : Obj} (o' : Obj) (h : W.heap[l]? = some o) (ho : o.isCells = false) : CellsUp B W (W.putObj l o') :=
  ⟨by simp, fun k q _ hk hq => by
    by_cases e : k = l
    · subst e; rw [h] at hk; cases hk; rw [ho] at hq; cases hq
    · exact (World.putObj_heap_other e).trans hk⟩

theorem room_wide (k : Nat) : Fence.wide.room k := fun d h => by cases h
theorem round_any {m m' : Nat} {P : Program} {l : Nat} {f : FuncId} {tmps : Array Value} {assign body : Code} {w : World} {R : Ending → World → Prop}
    (h : RoundIn Fence.wide m P l f tmps assign body w R) : RoundIn Fence.wide m' P l f tmps assign body w R := ⟨h.1, fun c cs _ => h.2 c cs (room_wide _)⟩
theorem yield_any {m m' : Nat} {P : Program} {l : Nat} {args : Array Value} {W : World} {R : Ending → World → Prop}
    (h : YieldAt Fence.wide m P l args W R) : YieldAt Fence.wide m' P l args W R := by
  obtain ⟨fn, tmps, assign, body, hy, hR⟩ := h
  exact ⟨fn, tmps, assign, body, hy, round_any hR⟩

/-- THE ITERATOR's CONTRACT: it goes through xs, or through a beginning of it; each round keeps what the iterator has laid. -/
def SeqUp {α : Type} (P : Program) (g : Nat) (lb : Array Value) (encs : α → Array Value) (xs : List α) (w : World) : Prop :=
  ∀ (l : Nat) (J Jx : List α → World → Prop) (W : World), Below w.heap.size w W → OwnFrom W.heap.size J → OwnFrom W.heap.size Jx →
    (∀ pre x W1, J pre W1 → pre.length < xs.length → YieldAt Fence.wide 0 P l (encs x) W1 fun e W' =>
      ((e = .returned (.bool true) ∧ J (pre ++ [x]) W') ∨ (e = .returned (.bool false) ∧ Jx (pre ++ [x]) W')) ∧ KeepsUp W.heap.size W1 W') →
    J [] W →
    Calls P g (#[.func (.yield l) #[] #[]] ++ lb) W fun e W' => (∃ v, e = .returned v) ∧ (J xs W' ∨ ∃ pre, pre <+: xs ∧ Jx pre W')

/-- How a round's body may be left. -/
def upPost {α : Type} (B : Nat) (I : List α → World → Prop) (Ix : Code → List α → World → Prop) (xs : List α) (W : World) : Exit → Act → World → Prop
  | .normal, _, W' => KeepsUp B W W' ∧ I xs W'
  | .ret, _, W' => KeepsUp B W W' ∧ Ix .ret xs W'
  | .exit id, _, W' => KeepsUp B W W' ∧ Ix (.exit id) xs W'
  | .goto t, _, W' => KeepsUp B W W' ∧ Ix (.goto t) xs W'
  | .panic _, _, _ => False
  | .outgrown, _, _ => False

/-- THE LOOP OVER SUCH AN ITERATOR. -/
theorem rangeUp {α : Type} {P : Program} {n : Nat} {g : Operand} {ps : Array Tmp} {assign body : Code} {Q : Exit → Act → World → Prop} {a : Act} {w : World}
    {gf : Nat} {lb : Array Value} (hg : a.eval g = .func (.func gf) #[] lb) (eg : ∀ args w, (callFunc gf args).run P w = .ok (.enter gf args) w)
    {encs : α → Array Value} {xs : List α} {w0 : World} (hseq : SeqUp P gf lb encs xs w0) (hb0 : Below w0.heap.size w0 w) (hps : ∀ x, (encs x).size = ps.size)
    (I : List α → World → Prop) (Ix : Code → List α → World → Prop) (hI : OwnFrom w.heap.size I) (hIx : ∀ c, OwnFrom w.heap.size (Ix c)) (h0 : I [] w)
    (Ax : α → Act → World → Prop) (hAx : ∀ x a', OwnFrom w.heap.size (fun (_ : Unit) W => Ax x a' W))
    (hassign : ∀ (l : Nat) (pre : List α) (x : α) (W : World) (K : Act → World → Prop), I pre W → (∀ a' W', KeepsUp w.heap.size W W' → I pre W' → Ax x a' W' → K a' W') →
      assign.wpIn (Fence.wide.inRound l) n P (Exit.then K (fun _ _ _ => False)) { tmps := (ps.zip (encs x)).foldl (fun t (p, v) => t.setIfInBounds p v) a.tmps, defers := [] } W)
    (hbody : ∀ (l : Nat) (pre : List α) (x : α) (a' : Act) (W : World), w.heap.size ≤ l → I pre W → Ax x a' W → pre.length < xs.length →
      body.wpIn (Fence.wide.inRound l) n P (upPost w.heap.size I Ix (pre ++ [x]) W) a' W)
    (hdone : ∀ (D : Nat) (W : World), w.heap.size ≤ D → I xs W → W.heap[D]? = some (.deferred (some [])) → Q .normal { a with defers := { target := .collected D, args := #[] } :: a.defers } W)
    (hstop : ∀ (D : Nat) (c : Code) (pre : List α) (W : World), w.heap.size ≤ D → pre <+: xs → Ix c pre W → W.heap[D]? = some (.deferred (some [])) →
      c.wpIn Fence.wide n P Q { a with defers := { target := .collected D, args := #[] } :: a.defers } W) :
    (Code.rangeFunc g ps assign body).wpIn Fence.wide n P Q a w := by
  refine wpIn_rangeFunc ?_
  intro fn hfn
  obtain ⟨rc, hrc⟩ : ∃ rc : LoopState → Option Code → Loop, rc = fun st pe => { state := st, pending := pe, fn, tmps := a.tmps, params := ps, assign, body, defers := w.heap.size } := ⟨_, rfl⟩
  have hrun := run_enterLoop_outer (P := P) (w := w) fn a.tmps ps assign body
  obtain ⟨W1, hW1⟩ : ∃ W1, (w.alloc (.deferred (some []))).alloc (.loop (rc .ready none)) = W1 := ⟨_, rfl⟩
  have hs1 : W1.heap.size = w.heap.size + 2 := by rw [← hW1]; simp
  have hrec1 : W1.heap[w.heap.size + 1]? = some (.loop (rc .ready none)) := by
    have := World.alloc_heap_new (w.alloc (.deferred (some []))) (.loop (rc .ready none))
    rw [hW1] at this
    simpa using this
  have hdef1 : W1.heap[w.heap.size]? = some (.deferred (some [])) := by
    rw [← hW1]
    exact (Below.heap_alloc _ _ _ (by simp)).trans (World.alloc_heap_new w _)
  have hI1 : I [] W1 := by rw [← hW1]; exact hI.alloc _ (hI.alloc _ h0)
  have hB1 : Below w0.heap.size w0 W1 := by
    rw [← hW1]
    exact hb0.trans ((((Below.refl _ w).alloc (Nat.le_refl _) _).alloc (by simp) _).mono hb0.size)
  refine ⟨w.heap.size + 1, [{ target := .collected w.heap.size, args := #[] }], W1, { target := .fn (.func gf) lb, args := #[.func (.yield (w.heap.size + 1)) #[] #[]] }, W1, gf,
    #[.func (.yield (w.heap.size + 1)) #[] #[]] ++ lb, W1, ?_, ?_, fun _ _ => trivial, ?_, fun h => (by cases h), ?_⟩
  · rw [← hW1, hrc]; exact hrun
  · simp only [resolve, hg]
    simp [go_sem]
  · simp [invoke, go_sem, eg]
  refine (callsIn_wide.2 (hseq (w.heap.size + 1)
    (fun pre W => I pre W ∧ W.heap[w.heap.size + 1]? = some (.loop (rc .ready none)) ∧ W.heap[w.heap.size]? = some (.deferred (some [])))
    (fun pre W => ∃ c, Ix c pre W ∧ W.heap[w.heap.size + 1]? = some (.loop (rc .done (some c))) ∧ W.heap[w.heap.size]? = some (.deferred (some [])))
    W1 hB1 ?_ ?_ ?_ ⟨hI1, hrec1, hdef1⟩)).mono ?_
  · rintro s X Y row ⟨h1, h2, h3⟩ hgr hr
    exact ⟨hI s X Y row h1 hgr (fun r e => ⟨by have := (hr r e).1; omega, (hr r e).2⟩), (hgr.block _ (Array.getElem?_eq_some_iff.1 h2).1 (fun e => by have := (hr _ e.symm).1; omega)).trans h2,
      (hgr.block _ (Array.getElem?_eq_some_iff.1 h3).1 (fun e => by have := (hr _ e.symm).1; omega)).trans h3⟩
  · rintro s X Y row ⟨c, h1, h2, h3⟩ hgr hr
    exact ⟨c, hIx c s X Y row h1 hgr (fun r e => ⟨by have := (hr r e).1; omega, (hr r e).2⟩), (hgr.block _ (Array.getElem?_eq_some_iff.1 h2).1 (fun e => by have := (hr _ e.symm).1; omega)).trans h2,
      (hgr.block _ (Array.getElem?_eq_some_iff.1 h3).1 (fun e => by have := (hr _ e.symm).1; omega)).trans h3⟩
  · -- a round
    rintro pre x W ⟨hi, hl, hd⟩ hlen
    have hy := run_yield (P := P) (args := encs x) hl (by rw [hrc]; exact hps x)
    rw [hrc] at hy
    refine yield_any (m := n) ⟨fn, _, _, _, hy, ?_⟩
    refine roundIn_of_wpIn hfn (hassign (w.heap.size + 1) pre x W _ hi ?_)
    intro a' W2 hk2 hi2 hx2
    have hl2 := hk2.same _ _ (by omega) hl
    have hd2 := hk2.same _ _ (Nat.le_refl _) hd
    have hlt2 : w.heap.size + 1 < W2.heap.size := (Array.getElem?_eq_some_iff.1 hl2).1
    refine ⟨_, run_beginRound hl2 (by rw [hrc]), ?_⟩
    obtain ⟨W3, hW3⟩ : ∃ W3, W2.putObj (w.heap.size + 1) (.loop { rc .ready none with state := .busy }) = W3 := ⟨_, rfl⟩
    have hl3 : W3.heap[w.heap.size + 1]? = some (.loop { rc .ready none with state := .busy }) := by rw [← hW3]; exact World.putObj_heap_same hlt2
    have hd3 : W3.heap[w.heap.size]? = some (.deferred (some [])) := by rw [← hW3]; exact (World.putObj_heap_other (by omega)).trans hd2
    have hi3 : I pre W3 := by rw [← hW3]; exact hI.putObj _ hi2 (by omega) hl2 rfl
    have hx3 : Ax x a' W3 := by rw [← hW3]; exact (hAx x a').putObj (s := ()) _ hx2 (by omega) hl2 rfl
    have hk3 : KeepsUp W1.heap.size W W3 := by rw [← hW3]; exact (hk2.mono (by omega)).trans (KeepsUp.putObj _ _ (by omega))
    rw [hW3]
    refine wpIn_mono (hbody (w.heap.size + 1) pre x a' W3 (by omega) hi3 hx3 hlen) ?_
    have fin : ∀ (jump : Option Code) (W4 : World), KeepsUp w.heap.size W3 W4 → ∃ W5, W4.putObj (w.heap.size + 1) (.loop (rc (if jump.isNone then .ready else .done) jump)) = W5 ∧
        (Instr.endRound (w.heap.size + 1) jump).run P W4 = .ok (.bool jump.isNone) W5 ∧ W4.heap[w.heap.size + 1]? = some (.loop { rc .ready none with state := .busy }) ∧
        W5.heap[w.heap.size + 1]? = some (.loop (rc (if jump.isNone then .ready else .done) jump)) ∧ W5.heap[w.heap.size]? = some (.deferred (some [])) ∧ KeepsUp W1.heap.size W W5 := fun jump W4 hk4 => by
      have hl4 := hk4.same _ _ (by omega) hl3
      have he := run_endRound (P := P) jump hl4
      refine ⟨_, rfl, ?_, hl4, World.putObj_heap_same (Array.getElem?_eq_some_iff.1 hl4).1, (World.putObj_heap_other (by omega)).trans (hk4.same _ _ (Nat.le_refl _) hd3), hk3.trans ((hk4.mono (by omega)).trans (KeepsUp.putObj _ _ (by omega)))⟩
      rw [hrc] at he ⊢
      exact he
    rintro e a4 W4 hp
    cases e with
    | normal =>
      obtain ⟨hk4, hi4⟩ := hp
      obtain ⟨W5, e5, hr5, hb5, hl5, hd5, hk5⟩ := fin none W4 hk4
      exact ⟨_, _, hr5, .inl ⟨rfl, by rw [← e5]; exact hI.putObj _ hi4 (by omega) hb5 rfl, hl5, hd5⟩, hk5⟩
    | ret =>
      obtain ⟨hk4, hi4⟩ := hp
      obtain ⟨W5, e5, hr5, hb5, hl5, hd5, hk5⟩ := fin (some .ret) W4 hk4
      exact ⟨_, _, hr5, .inr ⟨rfl, .ret, by rw [← e5]; exact (hIx _).putObj _ hi4 (by omega) hb5 rfl, hl5, hd5⟩, hk5⟩
    | exit id =>
      obtain ⟨hk4, hi4⟩ := hp
      obtain ⟨W5, e5, hr5, hb5, hl5, hd5, hk5⟩ := fin (some (.exit id)) W4 hk4
      exact ⟨_, _, hr5, .inr ⟨rfl, .exit id, by rw [← e5]; exact (hIx _).putObj _ hi4 (by omega) hb5 rfl, hl5, hd5⟩, hk5⟩
    | goto t =>
      obtain ⟨hk4, hi4⟩ := hp
      obtain ⟨W5, e5, hr5, hb5, hl5, hd5, hk5⟩ := fin (some (.goto t)) W4 hk4
      exact ⟨_, _, hr5, .inr ⟨rfl, .goto t, by rw [← e5]; exact (hIx _).putObj _ hi4 (by omega) hb5 rfl, hl5, hd5⟩, hk5⟩
    | panic ch => exact hp.elim
    | outgrown => exact hp.elim
  · -- behind the iterator
    rintro e W2 ⟨⟨v, rfl⟩, ⟨hi, hl, hd⟩ | ⟨pre, hpre, c, hi, hl, hd⟩⟩
    · have he := run_endLoop (P := P) hl (by rw [hrc]; simp)
      rw [hrc] at he
      refine ⟨none, _, he, hdone _ _ (Nat.le_refl _) (hI.putObj _ hi (by omega) hl rfl) ((World.putObj_heap_other (by omega)).trans hd)⟩
    · have he := run_endLoop (P := P) hl (by rw [hrc]; simp)
      rw [hrc] at he
      refine ⟨some c, _, he, hstop _ c pre _ (Nat.le_refl _) hpre ((hIx c).putObj _ hi (by omega) hl rfl) ((World.putObj_heap_other (by omega)).trans hd)⟩

/-! ### A region that draws its order, within a round (no 'defer' statement in it) -/
section
variable {F : Fence} {n : Nat} {P : Program} {ops : Array Oper} {md : Region.Mode} {C : World → Prop}
def noDefer (o : Oper) : Bool := match o.op with | .defer _ => false | _ => true
theorem noDefer_spec {o : Oper} (h : noDefer o = true) : ∀ c, o.op ≠ .defer c := fun c e => by simp [noDefer, e] at h
theorem op_quiet {o : Oper} {a : Act} {K : Act → Prop} {K' : Act → World → Prop} {Q' : Exit → Act → World → Prop} {w : World} (hd : noDefer o = true) (hw : C w) (h : ∀ a w', C w' → K a → K' a w')
    (ha : o.askedIn F P a C) (hh : o.quietIn F n P a C K) : o.wpIn F n P a w K' Q' := by
  obtain ⟨v, h1, h2⟩ := hh
  have h3 := h1 w hw
  unfold Oper.quietAtIn at h3
  refine ⟨ha w hw, ?_⟩
  rw [Oper.semAt_eq _ _ _ (noDefer_spec hd)]
  generalize (execOp a.eval o).run P w = r at h3 ⊢
  match r, h3 with
  | .ok (.value u) w', ⟨e1, e2⟩ => subst e1; subst e2; exact h _ _ hw h2
  | .ok .skip w', ⟨e1, e2⟩ => subst e1; subst e2; exact h _ _ hw h2
  | .ok (.enter f args) w', ⟨e1, hd', hc⟩ => subst e1; exact ⟨hd', hc.mono fun e w'' ⟨he, hw''⟩ => by subst he; exact h _ _ hw'' h2⟩
theorem qop_quiet {i : Nat} {a : Act} {K : Act → Prop} {K' : Act → World → Prop} {Q' : Exit → Act → World → Prop} {w : World} (hd : ∀ (i : Nat) o, ops[i]? = some o → noDefer o = true) (hC : C w) (h : ∀ a w', C w' → K a → K' a w')
    (hh : qOpIn F n P ops C i K a) : wpOpIn F n P ops Q' i K' a w := by
  unfold qOpIn at hh
  unfold wpOpIn
  cases ho : ops[i]? with
  | none => simp only [ho] at hh ⊢; exact h _ _ hC hh
  | some o =>
    simp only [ho] at hh ⊢
    obtain ⟨ha, hh⟩ := hh
    by_cases hw : Region.wanted o (yielded ops a.tmps) = true
    · simp only [hw, if_true] at hh ⊢; exact op_quiet (hd i o ho) hC h ha hh
    · simp only [hw] at hh ⊢; exact ⟨ha w hC, h _ _ hC hh⟩
theorem any_quiet {Q : Act → Prop} {Q' : Exit → Act → World → Prop} (hd : ∀ (i : Nat) o, ops[i]? = some o → noDefer o = true) (hQ : ∀ a w, C w → Q a → Q' .normal a w) : ∀ (fuel : Nat) (listed : Array Bool) (a : Act) (w : World), C w →
    wpAnyQIn F n P md ops C Q fuel listed a → wpAnyIn F n P md ops Q' fuel listed a w
  | 0, _, _, _, hw, h => ⟨h.1, hQ _ _ hw h.2⟩
  | fuel + 1, _, _, _, hw, h => ⟨fun h0 => hQ _ _ hw (h.1 h0), fun i hi => qop_quiet hd hw (fun a' w' hw' => any_quiet hd hQ fuel _ a' w' hw') (h.2 i hi)⟩
theorem region_quiet {id : Nat} {Q : Exit → Act → World → Prop} {a : Act} {w : World} {l : List Oper} (hd : l.all noDefer = true) (hm : P.follows .mixedOrders = true) (hB : Region.lexB .any l.toArray = true)
    (h : wpQuietIn F n P l.toArray (fun w' => ∃ n, w' = w.drewN n) (fun a' => ∀ w', (∃ n, w' = w.drewN n) → Q .normal a' w') l a) : (Code.region id l.toArray true).wpIn F n P Q a w := by
  simp only [Region.lexB, Bool.and_eq_true] at hB
  refine wpIn_region_any hm (any_quiet (C := fun w' => ∃ n, w' = w.drewN n) (Q := fun a' => ∀ w', (∃ n, w' = w.drewN n) → Q .normal a' w') ?_ (fun _ w' hw' h => h w' hw') _ _ _ _ ⟨1, rfl⟩ ?_)
  · intro i o ho
    rw [List.getElem?_toArray] at ho
    exact List.all_eq_true.1 hd o (List.mem_of_getElem? ho)
  · have := wpAnyQIn_lex (F := F) (n := n) (C := fun w' => ∃ n, w' = w.drewN n) (md := .any) hB.1 l.toArray.toList 0 (Array.replicate l.toArray.size false) a (by simp) (by simpa using hB.2) (by simpa using h)
    simpa using this
end
theorem KeepsUp.drewN (B : Nat) (W : World) (m : Nat) : KeepsUp B W (W.drewN m) := ⟨Nat.le_refl _, fun _ _ _ h => h⟩
end Go.Proofs.YtmpamcfeijnafaaDoor.Iter
